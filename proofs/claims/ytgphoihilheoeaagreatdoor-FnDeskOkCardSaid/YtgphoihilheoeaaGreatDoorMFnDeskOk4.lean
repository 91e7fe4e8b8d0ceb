/- Lemmas for FnDeskOk. -/
import Derived.Test.YtgphoihilheoeaaGreatDoorMFnDeskOk3
import Derived.Test.YtgphoihilheoeaaGreatDoorProg
namespace Go.Proofs.YtgphoihilheoeaaGreatDoor
open Go.Hs
set_option maxRecDepth 10000
set_option maxHeartbeats 4000000
set_option linter.unusedVariables false
set_option linter.unusedSimpArgs false

theorem l6Arrows_ok (w : World) (v : Value) (p : List (List Int)) (h : ESl Ints w v p) (hp : Gr p) (a : Nat) (ha : a < p.length) : Does Tryz.prog 84 [v, .int .i64 (a : Int)] w (RetO w XI (ints (arr p a))) := by
  have hle := h.le
  have hp5 := hp.2.1
  have hrow := hp.row ha
  have har : arr p a = (List.range p.length).filter fun j => decide (p[a].getD j 0 = 1) := by unfold arr arrR; rw [getD_lt ha, hrow]
  refine fn_of_W1 Tryz.func84 rfl Tryz.results84 Tryz.ntmps84 rfl ?_
  focus
    refine W_seq ?_; refine W_region rfl ?_; refine Wo rfl (opv_assign (v := .slice _ _ _) rfl) ?_; refine Wo_nil ?_; refine W_seq ?_; refine W_region rfl ?_; refine Wo_lit0 XInt rfl el58 Tryz.sizeOf3 ?_; rintro b1 w1 hb1 b1lt E1 hO1
    have hs1 := E1.size; refine Wo rfl (opv_assign (v := .slice _ _ _) rfl) ?_; refine Wo_nil ?_; refine W_seq ?_; refine W_seq ?_; refine W_region rfl ?_; refine Wo rfl (opv_assign (v := .int _ _) rfl) ?_; refine Wo_nil ?_
    refine W_block ?_
  refine W_loop [5, 6, 8, 9, 10, 11, 12, 13, 14, 15, 16, 17, 18, 19, 20, 21, 22, 23, 24, 25] (fun ((k, u) : Nat × Value) => [(6, .int .i64 (k : Nat)), (5, u)]) (fun (k, u) w' => Ext w w' ∧ k ≤ p.length ∧ Owned w.heap.size XI w' u (ints ((List.range k).filter fun j => decide (p[a].getD j 0 = 1)))) (fun x => p.length - x.1) (0, .slice (some ⟨b1, 0, none⟩) 0 0) (by repeat (first | exact trivial | refine And.intro rfl ?_)) ?_ ?_
  · exact ⟨by exact E1, Nat.zero_le _, hO1⟩
  clear hO1
  rintro ⟨k, u⟩ ρj w2 ⟨E2, hk, hO1⟩
  have hfl : (ints ((List.range k).filter fun j => decide (p[a].getD j 0 = 1))).length ≤ 11 := by
    rw [ints_len]; exact Nat.le_trans (List.length_filter_le _ _) (by rw [List.length_range]; omega)
  by_cases hlt : k < p.length
  · have hg : p[a].getD k 0 = p[a][k] := getD_lt (by omega)
    by_cases hc : p[a][k] = 1
    · focus
        have szE2 := E2.size; have szE1 := E1.size; refine W_seq ?_; refine W_seq ?_; refine W_region rfl ?_; refine Wo rfl (opv_move (v := .int _ _) rfl) ?_; refine Wo rfl (opv_move (v := v) rfl) ?_
        refine Wo rfl (opv_len Tryz.underlying22 rfl h) ?_; refine Wo rfl (opv_lss rfl rfl) ?_; refine Wo_nil ?_; refine W_cond_dec rfl (fun h1 => ?_) (fun h1 => ?_); refine W_skip ?_; refine W_seq ?_; refine W_block ?_; refine W_seq ?_
        refine W_region rfl ?_; refine Wo rfl (opv_move (v := v) rfl) ?_; refine Wo rfl (opv_move (v := .int _ _) rfl) ?_
        refine Wo_get Tryz.underlying22 Tryz.sizeOf58 Tryz.isAgg58 rfl (fun _ => rfl) rfl h E2 rfl (by first | omega | (simp <;> omega)) ?_; rintro _ u1 hu1; refine Wo rfl (opv_move (v := .int _ _) rfl) ?_
        refine Wo_get Tryz.underlying58 Tryz.sizeOf3 Tryz.isAgg3 rfl (fun _ => rfl) rfl hu1 E2 rfl (by first | omega | (simp <;> omega)) ?_; rintro _ _ rfl; refine Wo rfl (opv_eql rfl rfl) ?_; refine Wo_nil ?_
        refine W_cond_dec rfl (fun h2 => ?_) (fun h2 => ?_); refine W_region rfl ?_; refine Wo rfl (opv_move (v := u) rfl) ?_; refine Wo rfl (opv_move (v := .int _ _) rfl) ?_
        refine Wo_buildSliceH (ps := [(0, .int _ _)]) (cs := [_]) rfl Tryz.underlying58 Tryz.sizeOf3 Tryz.zeroValue3 rfl rfl rfl rfl ?_; rintro b2 w3 hb2 E3 hB1 hHb2; have hlb2 := hB1.lt; have hs2 := E3.size
        refine Wo_app1 rfl el58 rfl rfl hB1 (hO1.toB.ext E3) Owned.int (Nat.le_refl _) (by first | omega | (simp <;> omega)) (by omega) (by omega) (E2.trans E3) (by omega) ?_; have hT1 := (hO1.toB.ext E3); rintro v1 w4 hO1 E4 M1
        have hB1 := hB1.moves M1 hT1 (by omega); have hs3 := E4.size; refine Wo rfl (opv_assign (v := v1) rfl) ?_; refine Wo_nil ?_; refine W_region rfl ?_; refine Wo rfl (opv_move (v := .int _ _) rfl) ?_
        refine Wo rfl (opv_add rfl rfl (by omega)) ?_; refine Wo rfl (opv_assign (v := .int _ _) rfl) ?_; refine Wo_nil ?_; rotate_left; contradiction; (exfalso; omega)
      refine ⟨((k + 1, v1)), by repeat (first | exact trivial | refine And.intro rfl ?_), by repeat (first | with_reducible exact Same.refl | refine Same.upd rfl ?_ | refine Same.upds rfl ?_ | refine Same.mix rfl ?_), ?_, ?_⟩
      · refine ⟨by exact E4, by omega, ?_⟩
        rw [filter_range_succ, hg, decide_eq_true hc, ints_append]
        exact hO1
      · simp only; omega
    · focus
        have szE2 := E2.size; have szE1 := E1.size; refine W_seq ?_; refine W_seq ?_; refine W_region rfl ?_; refine Wo rfl (opv_move (v := .int _ _) rfl) ?_; refine Wo rfl (opv_move (v := v) rfl) ?_
        refine Wo rfl (opv_len Tryz.underlying22 rfl h) ?_; refine Wo rfl (opv_lss rfl rfl) ?_; refine Wo_nil ?_; refine W_cond_dec rfl (fun h1 => ?_) (fun h1 => ?_); refine W_skip ?_; refine W_seq ?_; refine W_block ?_; refine W_seq ?_
        refine W_region rfl ?_; refine Wo rfl (opv_move (v := v) rfl) ?_; refine Wo rfl (opv_move (v := .int _ _) rfl) ?_
        refine Wo_get Tryz.underlying22 Tryz.sizeOf58 Tryz.isAgg58 rfl (fun _ => rfl) rfl h E2 rfl (by first | omega | (simp <;> omega)) ?_; rintro _ u1 hu1; refine Wo rfl (opv_move (v := .int _ _) rfl) ?_
        refine Wo_get Tryz.underlying58 Tryz.sizeOf3 Tryz.isAgg3 rfl (fun _ => rfl) rfl hu1 E2 rfl (by first | omega | (simp <;> omega)) ?_; rintro _ _ rfl; refine Wo rfl (opv_eql rfl rfl) ?_; refine Wo_nil ?_
        refine W_cond_dec rfl (fun h2 => ?_) (fun h2 => ?_); contradiction; refine W_skip ?_; refine W_region rfl ?_; refine Wo rfl (opv_move (v := .int _ _) rfl) ?_; refine Wo rfl (opv_add rfl rfl (by omega)) ?_
        refine Wo rfl (opv_assign (v := .int _ _) rfl) ?_; refine Wo_nil ?_; rotate_left; (exfalso; omega)
      refine ⟨((k + 1, u)), by repeat (first | exact trivial | refine And.intro rfl ?_), by repeat (first | with_reducible exact Same.refl | refine Same.upd rfl ?_ | refine Same.upds rfl ?_ | refine Same.mix rfl ?_), ?_, ?_⟩
      · refine ⟨by exact E2, by omega, ?_⟩
        rw [filter_range_succ, hg, decide_eq_false hc]
        simp only [Bool.false_eq_true, if_false, List.append_nil]
        exact hO1
      · simp only; omega
  · obtain rfl : k = p.length := by omega
    focus
      have szE2 := E2.size; have szE1 := E1.size; refine W_seq ?_; refine W_seq ?_; refine W_region rfl ?_; refine Wo rfl (opv_move (v := .int _ _) rfl) ?_; refine Wo rfl (opv_move (v := v) rfl) ?_
      refine Wo rfl (opv_len Tryz.underlying22 rfl h) ?_; refine Wo rfl (opv_lss rfl rfl) ?_; refine Wo_nil ?_; refine W_cond_dec rfl (fun h1 => ?_) (fun h1 => ?_); (exfalso; omega); refine W_exit ?_; refine exitX_same ?_; refine W_seq ?_
      refine W_region rfl ?_; refine Wo rfl (opv_move (v := u) rfl) ?_; refine Wo rfl (opv_assign (v := u) rfl) ?_; refine Wo_nil ?_; refine W_ret ?_; refine ⟨E2, (congrArg (Owned _ _ _ _) ?_).mp (hO1.toB.o.mono (by omega))⟩
    rw [har]

open Classical in
theorem spec_SameSet_ok (w : World) (v u : Value) (p q : List (List Int)) (h : ESl Ints w v p) (h' : ESl Ints w u q) (a b : Int) (ha : Nod p a) (hb : Nod q b) : Does Tryz.prog 109 [v, .int .i64 a, u, .int .i64 b] w (Ret w (.bool (decide (Bis p a.toNat q b.toNat)))) := by
  have la : a.toNat < p.length := by have := ha.2; omega
  have lb : b.toNat < q.length := by have := hb.2; omega
  have hx := lst_pic ha.1 la
  have hy := lst_pic hb.1 lb
  have hx1 := hx.1
  have k1 : ∀ (w : World) (v : Value), ESl Ints w v p → Does Tryz.prog 32 [v, .int .i64 a] w (RetO w XR (lst p a.toNat)) := fun w v h => by
    have := LeastOf_ok w v p h a
    rwa [if_pos ha] at this
  have k2 : ∀ (w : World) (v : Value), ESl Ints w v q → Does Tryz.prog 32 [v, .int .i64 b] w (RetO w XR (lst q b.toNat)) := fun w v h => by
    have := LeastOf_ok w v q h b
    rwa [if_pos hb] at this
  have k3 : ∀ (w : World) (v : Value), ESl Ints w v (lst p a.toNat) → Does Tryz.prog 38 [v] w (Ret w (str (txt (lst p a.toNat)))) := fun w v h => by
    have := PictureText_ok w v _ h
    rwa [if_pos hx] at this
  have k4 : ∀ (w : World) (v : Value), ESl Ints w v (lst q b.toNat) → Does Tryz.prog 38 [v] w (Ret w (str (txt (lst q b.toNat)))) := fun w v h => by
    have := PictureText_ok w v _ h
    rwa [if_pos hy] at this
  have key : (lst p a.toNat = lst q b.toNat) ↔ Bis p a.toNat q b.toNat := lst_same ha.1.gr hb.1.gr la lb
  have key2 : txt (lst p a.toNat) = txt (lst q b.toNat) → lst p a.toNat = lst q b.toNat := txt_inj hx.gr hy.gr
  refine fn_of_W1 Tryz.func109 rfl Tryz.results109 Tryz.ntmps109 rfl ?_
  generalize lst p a.toNat = x at *
  generalize lst q b.toNat = y at *
  focus
    refine W_seq ?_; refine W_region rfl ?_; refine Wo rfl (opv_assign (v := .bool _) rfl) ?_; refine Wo_nil ?_; refine W_seq ?_; refine W_region rfl ?_; refine Wo rfl (opv_move (v := v) rfl) ?_
    refine Wo rfl (opv_move (v := .int _ _) rfl) ?_; refine Wo_call rfl (opc2 (a := v) (b := .int _ _) Tryz.call32 rfl rfl) (k1 _ _ (h)) ?_; rintro u1 w1 ⟨E1, hO1⟩; have hs1 := E1.size; refine Wo rfl (opv_assign (v := u1) rfl) ?_
    refine Wo_nil ?_; refine W_seq ?_; refine W_region rfl ?_; refine Wo rfl (opv_move (v := u) rfl) ?_; refine Wo rfl (opv_move (v := .int _ _) rfl) ?_
    refine Wo_call rfl (opc2 (a := u) (b := .int _ _) Tryz.call32 rfl rfl) (k2 _ _ ((Mono.mono E1 h'))) ?_; rintro u2 w2 ⟨E2, hO2⟩; have hs2 := E2.size; refine Wo rfl (opv_assign (v := u2) rfl) ?_; refine Wo_nil ?_; refine W_seq ?_
    refine W_region rfl ?_; refine Wo rfl (opv_move (v := u1) rfl) ?_; refine Wo rfl (opv_len Tryz.underlying22 rfl (Owned.read hO1)) ?_; refine Wo rfl (opv_gtr rfl rfl) ?_
    refine Wo_split_dec rfl (opv_move (v := .bool _) rfl) (fun h1 => ?_) (fun h1 => ?_); refine Wo rfl (opv_move (v := u1) rfl) ?_; refine Wo rfl (opv_len Tryz.underlying22 rfl (Owned.read hO1)) ?_
    refine Wo rfl (opv_move (v := u2) rfl) ?_; refine Wo rfl (opv_len Tryz.underlying22 rfl (Owned.read hO2)) ?_; refine Wo rfl (opv_eql rfl rfl) ?_; refine Wo rfl (opv_pick_t (v := .bool _) rfl rfl) ?_
    refine Wo_split_dec rfl (opv_move (v := .bool _) rfl) (fun h2 => ?_) (fun h2 => ?_); refine Wo rfl (opv_move (v := u1) rfl) ?_; refine Wo_call rfl (opc1 (a := u1) Tryz.call38 rfl) (k3 _ _ ((Mono.mono E2 (Owned.read hO1)))) ?_
    rintro _ w3 ⟨rfl, E3⟩; have hs3 := E3.size; refine Wo rfl (opv_move (v := u2) rfl) ?_; refine Wo_call rfl (opc1 (a := u2) Tryz.call38 rfl) (k4 _ _ ((Mono.mono E3 (Owned.read hO2)))) ?_; rintro _ w4 ⟨rfl, E4⟩; have hs4 := E4.size
    refine Wo rfl (opv_eql_str rfl rfl) ?_; refine Wo rfl (opv_pick_t (v := .bool _) rfl rfl) ?_; refine Wo rfl (opv_assign (v := .bool _) rfl) ?_; refine Wo_nil ?_; refine W_ret ?_; refine at_ret (v := .bool _) rfl ?_
    refine ⟨congrArg Value.bool ?_, (((E1.trans E2).trans E3).trans E4)⟩; rotate_left; refine Wo_skip rfl ?_; refine Wo_skip rfl ?_; refine Wo_skip rfl ?_; refine Wo_skip rfl ?_; refine Wo_skip rfl ?_
    refine Wo rfl (opv_pick_f (v := .bool _) rfl rfl) ?_; refine Wo rfl (opv_assign (v := .bool _) rfl) ?_; refine Wo_nil ?_; refine W_ret ?_; refine at_ret (v := .bool _) rfl ?_; refine ⟨congrArg Value.bool ?_, (E1.trans E2)⟩
    rotate_left; (exfalso; omega)
  · exact decide_eq_decide.2 ⟨fun e => key.1 (key2 e), fun e => by rw [key.2 e]⟩
  · exact (decide_eq_false fun hb => by have e := congrArg List.length (key.2 hb); omega).symm

open Classical in
theorem LeastOk_ok (w : World) (v : Value) (p : List (List Int)) (h : ESl Ints w v p) : Does Tryz.prog 21 [v] w (Ret w (.bool (decide (LeastP p)))) := by
  have hle := h.le
  by_cases hp : Pic p
  · have hn : Nod p 0 := ⟨hp, by omega, by have := hp.1; omega⟩
    have hx := lst_pic hp (a := 0) (by have := hp.1; omega)
    have hx1 := hx.1
    have k1 : ∀ (w : World) (v : Value), ESl Ints w v p → Does Tryz.prog 32 [v, .int .i64 0] w (RetO w XR (lst p 0)) := fun w v h => by
      have := LeastOf_ok w v p h 0
      rwa [if_pos hn] at this
    have k3 : ∀ (w : World) (v : Value), ESl Ints w v (lst p 0) → Does Tryz.prog 38 [v] w (Ret w (str (txt (lst p 0)))) := fun w v h => by
      have := PictureText_ok w v _ h
      rwa [if_pos hx] at this
    have k4 : ∀ (w : World) (v : Value), ESl Ints w v p → Does Tryz.prog 38 [v] w (Ret w (str (txt p))) := fun w v h => by
      have := PictureText_ok w v _ h
      rwa [if_pos hp] at this
    refine fn_of_W1 Tryz.func21 rfl Tryz.results21 Tryz.ntmps21 rfl ?_
    have key : LeastP p ↔ lst p 0 = p := ⟨fun h => h.2, fun h => ⟨hp, h⟩⟩
    have key2 : txt (lst p 0) = txt p → lst p 0 = p := txt_inj hx.gr hp.gr
    generalize lst p 0 = x at *
    focus
      refine W_seq ?_; refine W_region rfl ?_; refine Wo rfl (opv_assign (v := .bool _) rfl) ?_; refine Wo_nil ?_; refine W_seq ?_; refine W_region rfl ?_; refine Wo rfl (opv_move (v := v) rfl) ?_
      refine Wo_call rfl (opc2 (a := v) (b := .int _ _) Tryz.call32 rfl rfl) (k1 _ _ (h)) ?_; rintro u1 w1 ⟨E1, hO1⟩; have hs1 := E1.size; refine Wo rfl (opv_assign (v := u1) rfl) ?_; refine Wo_nil ?_; refine W_seq ?_
      refine W_region rfl ?_; refine Wo rfl (opv_move (v := u1) rfl) ?_; refine Wo rfl (opv_len Tryz.underlying22 rfl (Owned.read hO1)) ?_; refine Wo rfl (opv_gtr rfl rfl) ?_
      refine Wo_split_dec rfl (opv_move (v := .bool _) rfl) (fun h1 => ?_) (fun h1 => ?_); refine Wo rfl (opv_move (v := u1) rfl) ?_; refine Wo rfl (opv_len Tryz.underlying22 rfl (Owned.read hO1)) ?_
      refine Wo rfl (opv_move (v := v) rfl) ?_; refine Wo rfl (opv_len Tryz.underlying22 rfl h) ?_; refine Wo rfl (opv_eql rfl rfl) ?_; refine Wo rfl (opv_pick_t (v := .bool _) rfl rfl) ?_
      refine Wo_split_dec rfl (opv_move (v := .bool _) rfl) (fun h2 => ?_) (fun h2 => ?_); refine Wo rfl (opv_move (v := u1) rfl) ?_; refine Wo_call rfl (opc1 (a := u1) Tryz.call38 rfl) (k3 _ _ ((Owned.read hO1))) ?_
      rintro _ w2 ⟨rfl, E2⟩; have hs2 := E2.size; refine Wo rfl (opv_move (v := v) rfl) ?_; refine Wo_call rfl (opc1 (a := v) Tryz.call38 rfl) (k4 _ _ ((Mono.mono (E1.trans E2) h))) ?_; rintro _ w3 ⟨rfl, E3⟩; have hs3 := E3.size
      refine Wo rfl (opv_eql_str rfl rfl) ?_; refine Wo rfl (opv_pick_t (v := .bool _) rfl rfl) ?_; refine Wo rfl (opv_assign (v := .bool _) rfl) ?_; refine Wo_nil ?_; refine W_ret ?_; refine at_ret (v := .bool _) rfl ?_
      refine ⟨congrArg Value.bool ?_, ((E1.trans E2).trans E3)⟩; rotate_left; refine Wo_skip rfl ?_; refine Wo_skip rfl ?_; refine Wo_skip rfl ?_; refine Wo_skip rfl ?_; refine Wo_skip rfl ?_
      refine Wo rfl (opv_pick_f (v := .bool _) rfl rfl) ?_; refine Wo rfl (opv_assign (v := .bool _) rfl) ?_; refine Wo_nil ?_; refine W_ret ?_; refine at_ret (v := .bool _) rfl ?_; refine ⟨congrArg Value.bool ?_, E1⟩; rotate_left
      (exfalso; omega)
    · exact decide_eq_decide.2 ⟨fun e => key.2 (key2 e), fun e => by rw [key.1 e]⟩
    · exact (decide_eq_false fun hb => by have e := congrArg List.length (key.1 hb); omega).symm
  · have hn : ¬ Nod p 0 := fun h => hp h.1
    have k1 : ∀ (w : World) (v : Value), ESl Ints w v p → Does Tryz.prog 32 [v, .int .i64 0] w (RetO w XR []) := fun w v h => by
      have := LeastOf_ok w v p h 0
      rwa [if_neg hn] at this
    have hnil : (([] : List (List Int)).length : Int) = 0 := rfl
    refine fn_of_W1 Tryz.func21 rfl Tryz.results21 Tryz.ntmps21 rfl ?_
    focus
      refine W_seq ?_; refine W_region rfl ?_; refine Wo rfl (opv_assign (v := .bool _) rfl) ?_; refine Wo_nil ?_; refine W_seq ?_; refine W_region rfl ?_; refine Wo rfl (opv_move (v := v) rfl) ?_
      refine Wo_call rfl (opc2 (a := v) (b := .int _ _) Tryz.call32 rfl rfl) (k1 _ _ (h)) ?_; rintro u1 w1 ⟨E1, hO1⟩; have hs1 := E1.size; refine Wo rfl (opv_assign (v := u1) rfl) ?_; refine Wo_nil ?_; refine W_seq ?_
      refine W_region rfl ?_; refine Wo rfl (opv_move (v := u1) rfl) ?_; refine Wo rfl (opv_len Tryz.underlying22 rfl (Owned.read hO1)) ?_; refine Wo rfl (opv_gtr rfl rfl) ?_
      refine Wo_split_dec rfl (opv_move (v := .bool _) rfl) (fun h1 => ?_) (fun h1 => ?_); contradiction; refine Wo_skip rfl ?_; refine Wo_skip rfl ?_; refine Wo_skip rfl ?_; refine Wo_skip rfl ?_; refine Wo_skip rfl ?_
      refine Wo rfl (opv_pick_f (v := .bool _) rfl rfl) ?_; refine Wo rfl (opv_move (v := .bool _) rfl) ?_; refine Wo_skip rfl ?_; refine Wo_skip rfl ?_; refine Wo_skip rfl ?_; refine Wo_skip rfl ?_; refine Wo_skip rfl ?_
      refine Wo rfl (opv_pick_f (v := .bool _) rfl rfl) ?_; refine Wo rfl (opv_assign (v := .bool _) rfl) ?_; refine Wo_nil ?_; refine W_ret ?_; refine at_ret (v := .bool _) rfl ?_; refine ⟨congrArg Value.bool ?_, E1⟩
    exact (decide_eq_false fun hb => hp hb.1).symm

open Classical in
theorem spec_DeskOk_ok (w : World) (u1 u2 : Value) (d : Dsk) (h1 : ESl Ints w u1 d.now) (h2 : ESl (ESl Ints) w u2 d.past) : Does Tryz.prog 7 [.agg #[u1, u2]] w (Ret w (.bool (decide (DkOk d)))) := by
  obtain ⟨p, pp⟩ := d
  have hle := h2.le
  simp only at h1 h2 hle
  have icu1 : isCell u1 = true := by obtain ⟨_, _, rfl, _⟩ := h1; rfl
  have icu2 : isCell u2 = true := by obtain ⟨_, _, rfl, _⟩ := h2; rfl
  refine fn_of_W1 Tryz.func7 rfl Tryz.results7 Tryz.ntmps7 rfl ?_
  focus
    refine W_seq ?_; refine W_region rfl ?_; refine Wo_box rfl rfl rfl ?_; rintro b1 w1 hb1 E1 hB1; have hlb1 := hB1.lt; have hs1 := E1.size; refine Wo rfl (opv_assign (v := .bool _) rfl) ?_; refine Wo_nil ?_; refine W_seq ?_
    refine W_seq ?_; refine W_region rfl ?_; refine Wo rfl (opv_assign (v := .int _ _) rfl) ?_; refine Wo_nil ?_; refine W_block ?_
  refine W_loop [2, 3, 4, 5, 6, 7, 8, 9, 10, 11, 12, 13, 14, 15, 16, 17] (fun (k : Nat) => [(3, .int .i64 (k : Nat))]) (fun k w' => Ext w1 w' ∧ k ≤ pp.length ∧ ∀ q ∈ pp.take k, LeastP q) (fun x => pp.length - x) 0 (by repeat (first | exact trivial | refine And.intro rfl ?_)) ?_ ?_
  · exact ⟨Ext.refl _, Nat.zero_le _, by simp⟩
  rintro k ρj w2 ⟨E2, hk, hall⟩
  by_cases hlt : k < pp.length
  · by_cases hq : LeastP pp[k]
    · have kq : ∀ (w : World) (v : Value), ESl Ints w v pp[k] → Does Tryz.prog 21 [v] w (Ret w (.bool true)) := fun w v h => by
        have := LeastOk_ok w v _ h
        rwa [decide_eq_true hq] at this
      focus
        have szE2 := E2.size; have szE1 := E1.size; refine W_seq ?_; refine W_seq ?_; refine W_region rfl ?_; refine Wo rfl (opv_move (v := .int _ _) rfl) ?_; refine Wo rfl (opv_fieldAddr Tryz.underlying28 rfl rfl Tryz.sizeOf23 rfl) ?_
        refine Wo (v := u2) rfl (opv_load Tryz.isAgg23 rfl ((hB1.ext E2).cell rfl)) ?_; refine Wo rfl (opv_len Tryz.underlying23 rfl h2) ?_; refine Wo rfl (opv_lss rfl rfl) ?_; refine Wo_nil ?_
        refine W_cond_dec rfl (fun h3 => ?_) (fun h3 => ?_); refine W_skip ?_; refine W_seq ?_; refine W_block ?_; refine W_seq ?_; refine W_region rfl ?_; refine Wo rfl (opv_fieldAddr Tryz.underlying28 rfl rfl Tryz.sizeOf23 rfl) ?_
        refine Wo (v := u2) rfl (opv_load Tryz.isAgg23 rfl ((hB1.ext E2).cell rfl)) ?_; refine Wo rfl (opv_move (v := .int _ _) rfl) ?_
        refine Wo_get Tryz.underlying23 Tryz.sizeOf22 Tryz.isAgg22 rfl (fun _ => rfl) rfl h2 (E1.trans E2) rfl (by first | omega | (simp <;> omega)) ?_; rintro _ u3 hu1
        refine Wo_call rfl (opc1 (a := u3) Tryz.call21 rfl) (kq _ _ ((Mono.mono (E1.trans E2) hu1))) ?_; rintro _ w3 ⟨rfl, E3⟩; have hs2 := E3.size; refine Wo rfl (opv_not rfl) ?_; refine Wo_nil ?_
        refine W_cond rfl (fun h4 => ?_) (fun h4 => ?_); contradiction; refine W_skip ?_; refine W_region rfl ?_; refine Wo rfl (opv_move (v := .int _ _) rfl) ?_; refine Wo rfl (opv_add rfl rfl (by omega)) ?_
        refine Wo rfl (opv_assign (v := .int _ _) rfl) ?_; refine Wo_nil ?_; rotate_left; (exfalso; omega)
      refine ⟨(k + 1), by repeat (first | exact trivial | refine And.intro rfl ?_), by repeat (first | with_reducible exact Same.refl | refine Same.upd rfl ?_ | refine Same.upds rfl ?_ | refine Same.mix rfl ?_), ?_, ?_⟩
      · refine ⟨by exact (E2.trans E3), by omega, fun q hq' => ?_⟩
        rw [take_snoc _ _ hlt] at hq'
        rcases List.mem_append.1 hq' with h | h
        · exact hall q h
        · rw [List.mem_singleton.1 h]; exact hq
      · omega
    · have kq : ∀ (w : World) (v : Value), ESl Ints w v pp[k] → Does Tryz.prog 21 [v] w (Ret w (.bool false)) := fun w v h => by
        have := LeastOk_ok w v _ h
        rwa [decide_eq_false hq] at this
      focus
        have szE2 := E2.size; have szE1 := E1.size; refine W_seq ?_; refine W_seq ?_; refine W_region rfl ?_; refine Wo rfl (opv_move (v := .int _ _) rfl) ?_; refine Wo rfl (opv_fieldAddr Tryz.underlying28 rfl rfl Tryz.sizeOf23 rfl) ?_
        refine Wo (v := u2) rfl (opv_load Tryz.isAgg23 rfl ((hB1.ext E2).cell rfl)) ?_; refine Wo rfl (opv_len Tryz.underlying23 rfl h2) ?_; refine Wo rfl (opv_lss rfl rfl) ?_; refine Wo_nil ?_
        refine W_cond_dec rfl (fun h3 => ?_) (fun h3 => ?_); refine W_skip ?_; refine W_seq ?_; refine W_block ?_; refine W_seq ?_; refine W_region rfl ?_; refine Wo rfl (opv_fieldAddr Tryz.underlying28 rfl rfl Tryz.sizeOf23 rfl) ?_
        refine Wo (v := u2) rfl (opv_load Tryz.isAgg23 rfl ((hB1.ext E2).cell rfl)) ?_; refine Wo rfl (opv_move (v := .int _ _) rfl) ?_
        refine Wo_get Tryz.underlying23 Tryz.sizeOf22 Tryz.isAgg22 rfl (fun _ => rfl) rfl h2 (E1.trans E2) rfl (by first | omega | (simp <;> omega)) ?_; rintro _ u3 hu1
        refine Wo_call rfl (opc1 (a := u3) Tryz.call21 rfl) (kq _ _ ((Mono.mono (E1.trans E2) hu1))) ?_; rintro _ w3 ⟨rfl, E3⟩; have hs2 := E3.size; refine Wo rfl (opv_not rfl) ?_; refine Wo_nil ?_
        refine W_cond rfl (fun h4 => ?_) (fun h4 => ?_); refine W_seq ?_; refine W_region rfl ?_; refine Wo rfl (opv_assign (v := .bool _) rfl) ?_; refine Wo_nil ?_; refine W_ret ?_; refine at_ret (v := .bool _) rfl ?_
        refine ⟨congrArg Value.bool ?_, ((E1.trans E2).trans E3)⟩; rotate_left; contradiction; (exfalso; omega)
      exact (decide_eq_false fun h => hq (h.2.2 _ (List.getElem_mem hlt))).symm
  · obtain rfl : k = pp.length := by omega
    rw [List.take_length] at hall
    by_cases hq : LeastP p
    · have kq : ∀ (w : World) (v : Value), ESl Ints w v p → Does Tryz.prog 21 [v] w (Ret w (.bool true)) := fun w v h => by
        have := LeastOk_ok w v _ h
        rwa [decide_eq_true hq] at this
      focus
        have szE2 := E2.size; have szE1 := E1.size; refine W_seq ?_; refine W_seq ?_; refine W_region rfl ?_; refine Wo rfl (opv_move (v := .int _ _) rfl) ?_; refine Wo rfl (opv_fieldAddr Tryz.underlying28 rfl rfl Tryz.sizeOf23 rfl) ?_
        refine Wo (v := u2) rfl (opv_load Tryz.isAgg23 rfl ((hB1.ext E2).cell rfl)) ?_; refine Wo rfl (opv_len Tryz.underlying23 rfl h2) ?_; refine Wo rfl (opv_lss rfl rfl) ?_; refine Wo_nil ?_
        refine W_cond_dec rfl (fun h3 => ?_) (fun h3 => ?_); (exfalso; omega); refine W_exit ?_; refine exitX_same ?_; refine W_seq ?_; refine W_region rfl ?_; refine Wo rfl (opv_fieldAddr Tryz.underlying28 rfl rfl Tryz.sizeOf22 rfl) ?_
        refine Wo (v := u1) rfl (opv_load Tryz.isAgg22 rfl ((hB1.ext E2).cell rfl)) ?_; refine Wo_call rfl (opc1 (a := u1) Tryz.call21 rfl) (kq _ _ ((Mono.mono (E1.trans E2) h1))) ?_; rintro _ w3 ⟨rfl, E3⟩; have hs2 := E3.size
        refine Wo rfl (opv_move (v := .bool _) rfl) ?_; refine Wo rfl (opv_fieldAddr Tryz.underlying28 rfl rfl Tryz.sizeOf23 rfl) ?_; refine Wo (v := u2) rfl (opv_load Tryz.isAgg23 rfl ((hB1.ext (E2.trans E3)).cell rfl)) ?_
        refine Wo rfl (opv_len Tryz.underlying23 rfl h2) ?_; refine Wo rfl (opv_leq rfl rfl) ?_; refine Wo rfl (opv_pick_t (v := .bool _) rfl rfl) ?_; refine Wo rfl (opv_assign (v := .bool _) rfl) ?_; refine Wo_nil ?_; refine W_ret ?_
        refine at_ret (v := .bool _) rfl ?_; refine ⟨congrArg Value.bool ?_, ((E1.trans E2).trans E3)⟩
      exact decide_eq_decide.2 ⟨fun h => ⟨hq, show pp.length ≤ 8 by omega, hall⟩, fun h => by have : pp.length ≤ 8 := h.2.1; omega⟩
    · have kq : ∀ (w : World) (v : Value), ESl Ints w v p → Does Tryz.prog 21 [v] w (Ret w (.bool false)) := fun w v h => by
        have := LeastOk_ok w v _ h
        rwa [decide_eq_false hq] at this
      focus
        have szE2 := E2.size; have szE1 := E1.size; refine W_seq ?_; refine W_seq ?_; refine W_region rfl ?_; refine Wo rfl (opv_move (v := .int _ _) rfl) ?_; refine Wo rfl (opv_fieldAddr Tryz.underlying28 rfl rfl Tryz.sizeOf23 rfl) ?_
        refine Wo (v := u2) rfl (opv_load Tryz.isAgg23 rfl ((hB1.ext E2).cell rfl)) ?_; refine Wo rfl (opv_len Tryz.underlying23 rfl h2) ?_; refine Wo rfl (opv_lss rfl rfl) ?_; refine Wo_nil ?_
        refine W_cond_dec rfl (fun h3 => ?_) (fun h3 => ?_); (exfalso; omega); refine W_exit ?_; refine exitX_same ?_; refine W_seq ?_; refine W_region rfl ?_; refine Wo rfl (opv_fieldAddr Tryz.underlying28 rfl rfl Tryz.sizeOf22 rfl) ?_
        refine Wo (v := u1) rfl (opv_load Tryz.isAgg22 rfl ((hB1.ext E2).cell rfl)) ?_; refine Wo_call rfl (opc1 (a := u1) Tryz.call21 rfl) (kq _ _ ((Mono.mono (E1.trans E2) h1))) ?_; rintro _ w3 ⟨rfl, E3⟩; have hs2 := E3.size
        refine Wo rfl (opv_move (v := .bool _) rfl) ?_; refine Wo_skip rfl ?_; refine Wo_skip rfl ?_; refine Wo_skip rfl ?_; refine Wo_skip rfl ?_; refine Wo rfl (opv_pick_f (v := .bool _) rfl rfl) ?_
        refine Wo rfl (opv_assign (v := .bool _) rfl) ?_; refine Wo_nil ?_; refine W_ret ?_; refine at_ret (v := .bool _) rfl ?_; refine ⟨congrArg Value.bool ?_, ((E1.trans E2).trans E3)⟩
      exact (decide_eq_false fun h => hq h.1).symm

end Go.Proofs.YtgphoihilheoeaaGreatDoor
namespace Go.Proofs.YtgphoihilheoeaaGreatDoor
open Go.Hs
set_option maxRecDepth 10000
set_option maxHeartbeats 4000000
set_option linter.unusedVariables false
set_option linter.unusedSimpArgs false

theorem EqualI_ok (w : World) (v u : Value) (xs ys : List Int) (h : Ints w v xs) (h' : Ints w u ys) : Does Tryz.prog 68 [v, u] w (Ret w (.bool (decide (xs = ys)))) := by
  have hle := h.le
  have hle' := h'.le
  refine fn_of_W1 Tryz.func68 rfl Tryz.results68 Tryz.ntmps68 rfl ?_
  focus
    refine W_seq ?_; refine W_region rfl ?_; refine Wo rfl (opv_assign (v := .bool _) rfl) ?_; refine Wo_nil ?_; refine W_seq ?_; refine W_seq ?_; refine W_region rfl ?_; refine Wo rfl (opv_move (v := v) rfl) ?_
    refine Wo rfl (opv_len Tryz.underlying58 rfl h) ?_; refine Wo rfl (opv_move (v := u) rfl) ?_; refine Wo rfl (opv_len Tryz.underlying58 rfl h') ?_; refine Wo rfl (opv_neq rfl rfl) ?_; refine Wo_nil ?_
    refine W_cond_ndec rfl (fun h1 => ?_) (fun h1 => ?_); refine W_seq ?_; refine W_region rfl ?_; refine Wo rfl (opv_assign (v := .bool _) rfl) ?_; refine Wo_nil ?_; refine W_ret ?_; refine at_ret (v := .bool _) rfl ?_
    refine ⟨congrArg Value.bool ?_, (Ext.refl _)⟩; rotate_left; refine W_skip ?_; refine W_seq ?_; refine W_seq ?_; refine W_region rfl ?_; refine Wo rfl (opv_move (v := v) rfl) ?_; refine Wo rfl (opv_len Tryz.underlying58 rfl h) ?_
    refine Wo rfl (opv_move (v := .int _ _) rfl) ?_; refine Wo_nil ?_; refine W_block ?_; rotate_left
  · exact (decide_eq_false (fun e => by subst e; omega)).symm
  refine W_loop [4, 5, 13, 14, 15, 16, 17, 18, 19, 20, 21, 22, 23, 24, 25] (fun (k : Nat) => [(13, .int .i64 (k : Nat))]) (fun k w' => Ext w w' ∧ k ≤ xs.length ∧ xs.take k = ys.take k) (fun x => xs.length - x) 0 (by repeat (first | exact trivial | refine And.intro rfl ?_)) ?_ ?_
  · exact ⟨Ext.refl _, Nat.zero_le _, by simp⟩
  rintro k ρj w1 ⟨E1, hk, he⟩
  focus
    have szE1 := E1.size; refine W_seq ?_; refine W_region rfl ?_; refine Wo rfl (opv_lss rfl rfl) ?_; refine Wo_nil ?_; refine W_seq ?_; refine W_cond_dec rfl (fun h2 => ?_) (fun h2 => ?_); refine W_skip ?_; refine W_seq ?_
    refine W_block ?_; refine W_seq ?_; refine W_region rfl ?_; refine Wo rfl (opv_move (v := .int _ _) rfl) ?_; refine Wo rfl (opv_assign (v := .int _ _) rfl) ?_; refine Wo_nil ?_; refine W_seq ?_
    refine W_draw mixed (by kernel_rfl) rfl ?_; refine Wq_o rfl (fun _ _ => opv_move (v := v) rfl) ?_; refine Wq_o rfl (fun _ _ => opv_move (v := .int _ _) rfl) ?_
    refine Wq_get Tryz.underlying58 Tryz.sizeOf3 Tryz.isAgg3 rfl (fun _ => rfl) rfl h E1 rfl (by first | omega | (simp <;> omega)) ?_; rintro _ _ rfl; refine Wq_o rfl (fun _ _ => opv_move (v := u) rfl) ?_
    refine Wq_o rfl (fun _ _ => opv_move (v := .int _ _) rfl) ?_; refine Wq_get Tryz.underlying58 Tryz.sizeOf3 Tryz.isAgg3 rfl (fun _ => rfl) rfl h' E1 rfl (by first | omega | (simp <;> omega)) ?_; rintro _ _ rfl
    refine Wq_o rfl (fun _ _ => opv_neq rfl rfl) ?_; refine Wq_nil (fun w2 E2 => ?_); have hs1 := E2.size; refine W_cond_ndec rfl (fun h3 => ?_) (fun h3 => ?_); refine W_seq ?_; refine W_region rfl ?_
    refine Wo rfl (opv_assign (v := .bool _) rfl) ?_; refine Wo_nil ?_; refine W_ret ?_; refine at_ret (v := .bool _) rfl ?_; refine ⟨congrArg Value.bool ?_, (E1.trans E2)⟩; rotate_left; refine W_skip ?_; refine W_region rfl ?_
    refine Wo rfl (opv_add rfl rfl (by omega)) ?_; refine Wo rfl (opv_move (v := .int _ _) rfl) ?_; refine Wo_nil ?_; rotate_left; refine W_exit ?_; refine exitX_same ?_; refine W_seq ?_; refine W_region rfl ?_
    refine Wo rfl (opv_assign (v := .bool _) rfl) ?_; refine Wo_nil ?_; refine W_ret ?_; refine at_ret (v := .bool _) rfl ?_; refine ⟨congrArg Value.bool ?_, E1⟩; rotate_left
  · exact (decide_eq_false (ne_at (k := k) (by omega) (by omega) (by assumption))).symm
  · refine ⟨(k + 1), by repeat (first | exact trivial | refine And.intro rfl ?_), by repeat (first | with_reducible exact Same.refl | refine Same.upd rfl ?_ | refine Same.upds rfl ?_ | refine Same.mix rfl ?_), ?_, ?_⟩
    · exact ⟨E1.trans E2, by omega, (take_eq_snoc (by omega) (by omega)).2 ⟨he, by assumption⟩⟩
    · omega
  · obtain rfl : k = xs.length := by omega
    exact (decide_eq_true (ext_take (by omega) he)).symm

theorem EqualFunc_ok (w : World) (v u : Value) (xs ys : List (List Int)) (h : ESl Ints w v xs) (h' : ESl Ints w u ys) (hc : ∀ args w, Sem.run Tryz.prog (callFunc 68 args) w = .ok (.enter 68 args) w) :
    Does Tryz.prog 67 [v, u, .func (.func 68) [].toArray [].toArray] w (Ret w (.bool (decide (xs = ys)))) := by
  have hle := h.le
  have hle' := h'.le
  refine fn_of_W1 Tryz.func67 rfl Tryz.results67 Tryz.ntmps67 rfl ?_
  focus
    refine W_seq ?_; refine W_region rfl ?_; refine Wo rfl (opv_assign (v := .bool _) rfl) ?_; refine Wo_nil ?_; refine W_seq ?_; refine W_seq ?_; refine W_region rfl ?_; refine Wo rfl (opv_move (v := v) rfl) ?_
    refine Wo rfl (opv_len Tryz.underlying22 rfl h) ?_; refine Wo rfl (opv_move (v := u) rfl) ?_; refine Wo rfl (opv_len Tryz.underlying22 rfl h') ?_; refine Wo rfl (opv_neq rfl rfl) ?_; refine Wo_nil ?_
    refine W_cond_ndec rfl (fun h1 => ?_) (fun h1 => ?_); refine W_seq ?_; refine W_region rfl ?_; refine Wo rfl (opv_assign (v := .bool _) rfl) ?_; refine Wo_nil ?_; refine W_ret ?_; refine at_ret (v := .bool _) rfl ?_
    refine ⟨congrArg Value.bool ?_, (Ext.refl _)⟩; rotate_left; refine W_skip ?_; refine W_seq ?_; refine W_seq ?_; refine W_region rfl ?_; refine Wo rfl (opv_move (v := v) rfl) ?_; refine Wo rfl (opv_len Tryz.underlying22 rfl h) ?_
    refine Wo rfl (opv_move (v := .int _ _) rfl) ?_; refine Wo_nil ?_; refine W_block ?_; rotate_left
  · exact (decide_eq_false (fun e => by subst e; omega)).symm
  refine W_loop [6, 7, 8, 9, 17, 18, 19, 20, 21, 22, 23, 24, 25, 26, 27, 28, 29, 30, 31] (fun (k : Nat) => [(17, .int .i64 (k : Nat))]) (fun k w' => Ext w w' ∧ k ≤ xs.length ∧ xs.take k = ys.take k) (fun x => xs.length - x) 0 (by repeat (first | exact trivial | refine And.intro rfl ?_)) ?_ ?_
  · exact ⟨Ext.refl _, Nat.zero_le _, by simp⟩
  rintro k ρj w1 ⟨E1, hk, he⟩
  focus
    have szE1 := E1.size; refine W_seq ?_; refine W_region rfl ?_; refine Wo rfl (opv_lss rfl rfl) ?_; refine Wo_nil ?_; refine W_seq ?_; refine W_cond_dec rfl (fun h2 => ?_) (fun h2 => ?_); refine W_skip ?_; refine W_seq ?_
    refine W_block ?_; refine W_seq ?_; refine W_region rfl ?_; refine Wo rfl (opv_move (v := .int _ _) rfl) ?_
    refine Wo_get Tryz.underlying22 Tryz.sizeOf58 Tryz.isAgg58 rfl (fun _ => rfl) rfl h E1 rfl (by first | omega | (simp <;> omega)) ?_; rintro _ u1 hu1; refine Wo rfl (opv_assign (v := .int _ _) rfl) ?_
    refine Wo rfl (opv_assign (v := u1) rfl) ?_; refine Wo_nil ?_; refine W_seq ?_; refine W_region rfl ?_; refine Wo rfl (opv_move (v := u) rfl) ?_; refine Wo rfl (opv_move (v := .int _ _) rfl) ?_
    refine Wo_get Tryz.underlying22 Tryz.sizeOf58 Tryz.isAgg58 rfl (fun _ => rfl) rfl h' E1 rfl (by first | omega | (simp <;> omega)) ?_; rintro _ u2 hu2; refine Wo rfl (opv_assign (v := u2) rfl) ?_; refine Wo_nil ?_; refine W_seq ?_
    refine W_region rfl ?_; refine Wo rfl (opv_move (v := .func _ _ _) rfl) ?_; refine Wo rfl (opv_move (v := u1) rfl) ?_; refine Wo rfl (opv_move (v := u2) rfl) ?_
    refine Wo_call rfl (opc_val2 Tryz.call68 rfl rfl rfl) (EqualI_ok _ _ _ _ _ ((Mono.mono E1 hu1)) ((Mono.mono E1 hu2))) ?_; rintro _ w2 ⟨rfl, E2⟩; have hs1 := E2.size; refine Wo rfl (opv_not rfl) ?_; refine Wo_nil ?_
    refine W_cond_ndec rfl (fun h3 => ?_) (fun h3 => ?_); refine W_seq ?_; refine W_region rfl ?_; refine Wo rfl (opv_assign (v := .bool _) rfl) ?_; refine Wo_nil ?_; refine W_ret ?_; refine at_ret (v := .bool _) rfl ?_
    refine ⟨congrArg Value.bool ?_, (E1.trans E2)⟩; rotate_left; refine W_skip ?_; refine W_region rfl ?_; refine Wo rfl (opv_add rfl rfl (by omega)) ?_; refine Wo rfl (opv_move (v := .int _ _) rfl) ?_; refine Wo_nil ?_; rotate_left
    refine W_exit ?_; refine exitX_same ?_; refine W_seq ?_; refine W_region rfl ?_; refine Wo rfl (opv_assign (v := .bool _) rfl) ?_; refine Wo_nil ?_; refine W_ret ?_; refine at_ret (v := .bool _) rfl ?_
    refine ⟨congrArg Value.bool ?_, E1⟩; rotate_left
  · exact (decide_eq_false (ne_at (k := k) (by omega) (by omega) (by assumption))).symm
  · refine ⟨(k + 1), by repeat (first | exact trivial | refine And.intro rfl ?_), by repeat (first | with_reducible exact Same.refl | refine Same.upd rfl ?_ | refine Same.upds rfl ?_ | refine Same.mix rfl ?_), ?_, ?_⟩
    · exact ⟨E1.trans E2, by omega, (take_eq_snoc (by omega) (by omega)).2 ⟨he, by assumption⟩⟩
    · omega
  · obtain rfl : k = xs.length := by omega
    exact (decide_eq_true (ext_take (by omega) he)).symm

theorem IndexFuncP_ok (w : World) (v : Value) (xs : List (List (List Int))) (h : ESl (ESl Ints) w v xs) (fid : FuncId) (cap : List Value) (g : List (List Int) → Bool) (hc : ∀ args w, Sem.run Tryz.prog (callFunc fid args) w = .ok (.enter fid args) w)
    (hf : ∀ (x : List (List Int)) (u : Value) (w' : World), ESl Ints w' u x → Ext w w' → Does Tryz.prog fid (u :: cap) w' (Ret w' (.bool (g x)))) :
    Does Tryz.prog 69 [v, .func (.func fid) [].toArray cap.toArray] w (RetX w (Value.int .i64) (fun n _ => (n = -1 ∧ xs.any g = false) ∨ (0 ≤ n ∧ xs.any g = true))) := by
  have hle := h.le
  refine fn_of_W1 Tryz.func69 rfl Tryz.results69 Tryz.ntmps69 rfl ?_
  focus
    refine W_seq ?_; refine W_region rfl ?_; refine Wo rfl (opv_assign (v := .int _ _) rfl) ?_; refine Wo_nil ?_; refine W_seq ?_; refine W_seq ?_; refine W_region rfl ?_; refine Wo rfl (opv_move (v := v) rfl) ?_
    refine Wo rfl (opv_len Tryz.underlying23 rfl h) ?_; refine Wo rfl (opv_move (v := .int _ _) rfl) ?_; refine Wo_nil ?_; refine W_block ?_
  refine W_loop [4, 5, 8, 9, 10, 11, 12, 13, 14, 15, 16, 17, 18] (fun (k : Nat) => [(8, .int .i64 (k : Nat))]) (fun k w' => Ext w w' ∧ k ≤ xs.length ∧ (xs.take k).any g = false) (fun x => xs.length - x) 0 (by repeat (first | exact trivial | refine And.intro rfl ?_)) ?_ ?_
  · exact ⟨Ext.refl _, Nat.zero_le _, by simp⟩
  rintro k ρj w1 ⟨E1, hk, hg⟩
  by_cases hlt : k < xs.length
  · have hmem := List.getElem_mem hlt
    have hf' := hf xs[k]
    focus
      have szE1 := E1.size; refine W_seq ?_; refine W_region rfl ?_; refine Wo rfl (opv_lss rfl rfl) ?_; refine Wo_nil ?_; refine W_seq ?_; refine W_cond_dec rfl (fun h1 => ?_) (fun h1 => ?_); refine W_skip ?_; refine W_seq ?_
      refine W_block ?_; refine W_seq ?_; refine W_region rfl ?_; refine Wo rfl (opv_move (v := .int _ _) rfl) ?_; refine Wo rfl (opv_assign (v := .int _ _) rfl) ?_; refine Wo_nil ?_; refine W_seq ?_; refine W_region rfl ?_
      refine Wo rfl (opv_move (v := .func _ _ _) rfl) ?_; refine Wo rfl (opv_move (v := v) rfl) ?_; refine Wo rfl (opv_move (v := .int _ _) rfl) ?_
      refine Wo_get Tryz.underlying23 Tryz.sizeOf22 Tryz.isAgg22 rfl (fun _ => rfl) rfl h E1 rfl (by first | omega | (simp <;> omega)) ?_; rintro _ u1 hu1
      refine Wo_call rfl (opc_val1 (a := u1) (by assumption) rfl rfl) (hf' _ _ ((Mono.mono E1 hu1)) (E1)) ?_; rintro _ w2 ⟨rfl, E2⟩; have hs1 := E2.size; refine Wo_nil ?_; refine W_cond rfl (fun h2 => ?_) (fun h2 => ?_); refine W_seq ?_
      refine W_region rfl ?_; refine Wo rfl (opv_move (v := .int _ _) rfl) ?_; refine Wo rfl (opv_assign (v := .int _ _) rfl) ?_; refine Wo_nil ?_; refine W_ret ?_; refine at_ret (v := .int _ _) rfl ?_; refine ⟨(E1.trans E2), _, rfl, ?_⟩
      (try dsimp only); rotate_left; refine W_skip ?_; refine W_region rfl ?_; refine Wo rfl (opv_add rfl rfl (by omega)) ?_; refine Wo rfl (opv_move (v := .int _ _) rfl) ?_; refine Wo_nil ?_; rotate_left; (exfalso; omega)
    · right
      refine ⟨by omega, List.any_eq_true.2 ⟨_, hmem, by assumption⟩⟩
    · refine ⟨(k + 1), by repeat (first | exact trivial | refine And.intro rfl ?_), by repeat (first | with_reducible exact Same.refl | refine Same.upd rfl ?_ | refine Same.upds rfl ?_ | refine Same.mix rfl ?_), ?_, ?_⟩
      · refine ⟨E1.trans E2, by omega, ?_⟩
        rw [take_snoc _ _ hlt, List.any_append, hg]
        simpa using by assumption
      · omega
  · obtain rfl : k = xs.length := by omega
    focus
      have szE1 := E1.size; refine W_seq ?_; refine W_region rfl ?_; refine Wo rfl (opv_lss rfl rfl) ?_; refine Wo_nil ?_; refine W_seq ?_; refine W_cond_dec rfl (fun h1 => ?_) (fun h1 => ?_); (exfalso; omega); refine W_exit ?_
      refine exitX_same ?_; refine W_seq ?_; refine W_region rfl ?_; refine Wo rfl (opv_assign (v := .int _ _) rfl) ?_; refine Wo_nil ?_; refine W_ret ?_; refine at_ret (v := .int _ _) rfl ?_; refine ⟨E1, _, rfl, ?_⟩; (try dsimp only)
    exact .inl ⟨rfl, by simpa using hg⟩

theorem ContainsFuncP_ok (w : World) (v : Value) (xs : List (List (List Int))) (h : ESl (ESl Ints) w v xs) (fid : FuncId) (cap : List Value) (g : List (List Int) → Bool) (hc : ∀ args w, Sem.run Tryz.prog (callFunc fid args) w = .ok (.enter fid args) w)
    (hf : ∀ (x : List (List Int)) (u : Value) (w' : World), ESl Ints w' u x → Ext w w' → Does Tryz.prog fid (u :: cap) w' (Ret w' (.bool (g x)))) :
    Does Tryz.prog 42 [v, .func (.func fid) [].toArray cap.toArray] w (Ret w (.bool (xs.any g))) := by
  have hi := IndexFuncP_ok w v xs h fid cap g hc hf
  refine fn_of_W1 Tryz.func42 rfl Tryz.results42 Tryz.ntmps42 rfl ?_
  focus
    refine W_seq ?_; refine W_region rfl ?_; refine Wo rfl (opv_assign (v := .bool _) rfl) ?_; refine Wo_nil ?_; refine W_seq ?_; refine W_region rfl ?_; refine Wo rfl (opv_move (v := v) rfl) ?_
    refine Wo rfl (opv_move (v := .func _ _ _) rfl) ?_; refine Wo_call rfl (opc2 (a := v) (b := .func _ _ _) Tryz.call69 rfl rfl) (hi) ?_; rintro _ w1 ⟨E1, y1, rfl, hy1⟩; have hs1 := E1.size; refine Wo rfl (opv_geq rfl rfl) ?_
    refine Wo rfl (opv_assign (v := .bool _) rfl) ?_; refine Wo_nil ?_; refine W_ret ?_; refine at_ret (v := .bool _) rfl ?_; refine ⟨congrArg Value.bool ?_, E1⟩
  rcases hy1 with ⟨rfl, h9⟩ | ⟨h8, h9⟩
  · rw [h9]; rfl
  · rw [h9]; exact decide_eq_true h8

open Classical in
theorem isLeast_ok (w : World) (v : Value) (p : List (List Int)) (h : ESl Ints w v p) (hp : Pic p) : Does Tryz.prog 41 [v] w (Ret w (.bool (decide (LeastP p)))) := by
  have hl := lst_pic hp (a := 0) (by have := hp.1; omega)
  have e : (LeastP p) = (lst p 0 = p) := propext ⟨fun h => h.2, fun h => ⟨hp, h⟩⟩
  have k1 : ∀ (w : World) (v : Value), ESl Ints w v p → Does Tryz.prog 30 [v, .int .i64 0] w (RetOB w XR (lst p 0) true) := fun w v h => by
    have := leastOf_ok w v p h hp.gr 0 (by have := hp.1; omega)
    rwa [if_pos hl.2.1, decide_eq_true hl.2.1] at this
  have k2 := fun (w : World) (v u : Value) (h : ESl Ints w v (lst p 0)) (h' : ESl Ints w u p) => EqualFunc_ok w v u (lst p 0) p h h' Tryz.call68
  rw [show decide (LeastP p) = decide (lst p 0 = p) from decide_eq_decide.2 (iff_of_eq e)]
  refine fn_of_W1 Tryz.func41 rfl Tryz.results41 Tryz.ntmps41 rfl ?_
  focus
    refine W_seq ?_; refine W_region rfl ?_; refine Wo rfl (opv_assign (v := .bool _) rfl) ?_; refine Wo_nil ?_; refine W_seq ?_; refine W_region rfl ?_; refine Wo rfl (opv_move (v := v) rfl) ?_
    refine Wo_call rfl (opc2 (a := v) (b := .int _ _) Tryz.call30 rfl rfl) (k1 _ _ (h)) ?_; rintro _ w1 ⟨u1, rfl, E1, hO1⟩; have hs1 := E1.size; refine Wo rfl (opv_move (v := .tuple _) rfl) ?_
    refine Wo rfl (opv_extract (v := u1) rfl rfl) ?_; refine Wo rfl (opv_extract (v := .bool _) rfl rfl) ?_; refine Wo rfl (opv_assign (v := u1) rfl) ?_; refine Wo rfl (opv_assign (v := .bool _) rfl) ?_; refine Wo_nil ?_
    refine W_seq ?_; refine W_region rfl ?_; refine Wo rfl (opv_move (v := u1) rfl) ?_; refine Wo rfl (opv_move (v := v) rfl) ?_
    refine Wo_call rfl (opc3 (a := u1) (b := v) (c := .func _ _ _) Tryz.call67 rfl rfl rfl) (k2 _ _ _ ((Owned.read hO1)) ((Mono.mono E1 h))) ?_; rintro _ w2 ⟨rfl, E2⟩; have hs2 := E2.size
    refine Wo rfl (opv_assign (v := .bool _) rfl) ?_; refine Wo_nil ?_; refine W_ret ?_; exact ⟨rfl, (E1.trans E2)⟩

open Classical in
theorem isDesk1_ok (w : World) (v : Value) (p : List (List Int)) (h : ESl Ints w v p) : Does Tryz.prog 43 [v] w (Ret w (.bool (!decide (LeastP p)))) := by
  by_cases hp : Pic p
  · have k0 : ∀ (w : World) (v : Value), ESl Ints w v p → Does Tryz.prog 40 [v] w (Ret w (.bool true)) := fun w v h => by
      have := isPicture_ok w v p h; rwa [decide_eq_true hp] at this
    have k1 : ∀ (w : World) (v : Value), ESl Ints w v p → Does Tryz.prog 41 [v] w (Ret w (.bool (decide (LeastP p)))) := fun w v h => isLeast_ok w v p h hp
    refine fn_of_W1 Tryz.func43 rfl Tryz.results43 Tryz.ntmps43 rfl ?_
    focus
      refine W_seq ?_; refine W_region rfl ?_; refine Wo rfl (opv_assign (v := .bool _) rfl) ?_; refine Wo_nil ?_; refine W_seq ?_; refine W_region rfl ?_; refine Wo rfl (opv_move (v := v) rfl) ?_
      refine Wo_call rfl (opc1 (a := v) Tryz.call40 rfl) (k0 _ _ (h)) ?_; rintro _ w1 ⟨rfl, E1⟩; have hs1 := E1.size; refine Wo rfl (opv_not rfl) ?_; refine Wo_split rfl (opv_move (v := .bool _) rfl) (fun h1 => ?_) (fun h1 => ?_)
      contradiction; refine Wo rfl (opv_move (v := v) rfl) ?_; refine Wo_call rfl (opc1 (a := v) Tryz.call41 rfl) (k1 _ _ ((Mono.mono E1 h))) ?_; rintro _ w2 ⟨rfl, E2⟩; have hs2 := E2.size; refine Wo rfl (opv_not rfl) ?_
      refine Wo rfl (opv_pick_f (v := .bool _) rfl rfl) ?_; refine Wo rfl (opv_assign (v := .bool _) rfl) ?_; refine Wo_nil ?_; refine W_ret ?_; exact ⟨rfl, (E1.trans E2)⟩
  · have hd : decide (LeastP p) = false := decide_eq_false fun h => hp h.1
    rw [hd]
    have k0 : ∀ (w : World) (v : Value), ESl Ints w v p → Does Tryz.prog 40 [v] w (Ret w (.bool false)) := fun w v h => by
      have := isPicture_ok w v p h; rwa [decide_eq_false hp] at this
    refine fn_of_W1 Tryz.func43 rfl Tryz.results43 Tryz.ntmps43 rfl ?_
    focus
      refine W_seq ?_; refine W_region rfl ?_; refine Wo rfl (opv_assign (v := .bool _) rfl) ?_; refine Wo_nil ?_; refine W_seq ?_; refine W_region rfl ?_; refine Wo rfl (opv_move (v := v) rfl) ?_
      refine Wo_call rfl (opc1 (a := v) Tryz.call40 rfl) (k0 _ _ (h)) ?_; rintro _ w1 ⟨rfl, E1⟩; have hs1 := E1.size; refine Wo rfl (opv_not rfl) ?_; refine Wo_split rfl (opv_move (v := .bool _) rfl) (fun h1 => ?_) (fun h1 => ?_)
      refine Wo_skip rfl ?_; refine Wo_skip rfl ?_; refine Wo_skip rfl ?_; refine Wo rfl (opv_pick_t (v := .bool _) rfl rfl) ?_; refine Wo rfl (opv_assign (v := .bool _) rfl) ?_; refine Wo_nil ?_; refine W_ret ?_; exact ⟨rfl, E1⟩
      contradiction

open Classical in
theorem isDesk_ok (w : World) (u1 u2 : Value) (d : Dsk) (h1 : ESl Ints w u1 d.now) (h2 : ESl (ESl Ints) w u2 d.past) : Does Tryz.prog 24 [.agg #[u1, u2]] w (Ret w (.bool (decide (DkOk d)))) := by
  obtain ⟨p, pp⟩ := d
  have hle := h2.le
  simp only at h1 h2 hle
  have icu1 : isCell u1 = true := ESl_isC h1
  have icu2 : isCell u2 = true := ESl_isC h2
  refine fn_of_W1 Tryz.func24 rfl Tryz.results24 Tryz.ntmps24 rfl ?_
  have k2 := fun (w : World) (v : Value) (h : ESl (ESl Ints) w v pp) => ContainsFuncP_ok w v pp h 43 [] (fun x => !decide (LeastP x)) Tryz.call43 (fun x u w' h e => isDesk1_ok w' u x h)
  by_cases hp : Pic p
  · have k0 : ∀ (w : World) (v : Value), ESl Ints w v p → Does Tryz.prog 40 [v] w (Ret w (.bool true)) := fun w v h => by
      have := isPicture_ok w v p h; rwa [decide_eq_true hp] at this
    have k1 : ∀ (w : World) (v : Value), ESl Ints w v p → Does Tryz.prog 41 [v] w (Ret w (.bool (decide (LeastP p)))) := fun w v h => isLeast_ok w v p h hp
    focus
      refine W_seq ?_; refine W_region rfl ?_; refine Wo_box rfl rfl rfl ?_; rintro b1 w1 hb1 E1 hB1; have hlb1 := hB1.lt; have hs1 := E1.size; refine Wo rfl (opv_assign (v := .bool _) rfl) ?_; refine Wo_nil ?_; refine W_seq ?_
      refine W_seq ?_; refine W_region rfl ?_; refine Wo rfl (opv_fieldAddr Tryz.underlying28 rfl rfl Tryz.sizeOf22 rfl) ?_; refine Wo (v := u1) rfl (opv_load Tryz.isAgg22 rfl (hB1.cell rfl)) ?_
      refine Wo_call rfl (opc1 (a := u1) Tryz.call40 rfl) (k0 _ _ ((Mono.mono E1 h1))) ?_; rintro _ w2 ⟨rfl, E2⟩; have hs2 := E2.size; refine Wo rfl (opv_not rfl) ?_
      refine Wo_split rfl (opv_move (v := .bool _) rfl) (fun h3 => ?_) (fun h3 => ?_); contradiction; refine Wo rfl (opv_fieldAddr Tryz.underlying28 rfl rfl Tryz.sizeOf22 rfl) ?_
      refine Wo (v := u1) rfl (opv_load Tryz.isAgg22 rfl ((hB1.ext E2).cell rfl)) ?_; refine Wo_call rfl (opc1 (a := u1) Tryz.call41 rfl) (k1 _ _ ((Mono.mono (E1.trans E2) h1))) ?_; rintro _ w3 ⟨rfl, E3⟩; have hs3 := E3.size
      refine Wo rfl (opv_not rfl) ?_; refine Wo rfl (opv_pick_f (v := .bool _) rfl rfl) ?_; refine Wo_split_ndec rfl (opv_move (v := .bool _) rfl) (fun h4 => ?_) (fun h4 => ?_); refine Wo_skip rfl ?_; refine Wo_skip rfl ?_
      refine Wo_skip rfl ?_; refine Wo_skip rfl ?_; refine Wo rfl (opv_pick_t (v := .bool _) rfl rfl) ?_; refine Wo_nil ?_; refine W_cond_true rfl ?_; refine W_seq ?_; refine W_region rfl ?_
      refine Wo rfl (opv_assign (v := .bool _) rfl) ?_; refine Wo_nil ?_; refine W_ret ?_; refine at_ret (v := .bool _) rfl ?_; refine ⟨congrArg Value.bool ?_, ((E1.trans E2).trans E3)⟩; rotate_left
      refine Wo rfl (opv_fieldAddr Tryz.underlying28 rfl rfl Tryz.sizeOf23 rfl) ?_; refine Wo (v := u2) rfl (opv_load Tryz.isAgg23 rfl ((hB1.ext (E2.trans E3)).cell rfl)) ?_; refine Wo rfl (opv_len Tryz.underlying23 rfl h2) ?_
      refine Wo rfl (opv_gtr rfl rfl) ?_; refine Wo rfl (opv_pick_f (v := .bool _) rfl rfl) ?_; refine Wo_nil ?_; refine W_cond_dec rfl (fun h5 => ?_) (fun h5 => ?_); refine W_seq ?_; refine W_region rfl ?_
      refine Wo rfl (opv_assign (v := .bool _) rfl) ?_; refine Wo_nil ?_; refine W_ret ?_; refine at_ret (v := .bool _) rfl ?_; refine ⟨congrArg Value.bool ?_, ((E1.trans E2).trans E3)⟩; rotate_left; refine W_skip ?_; refine W_seq ?_
      refine W_region rfl ?_; refine Wo rfl (opv_fieldAddr Tryz.underlying28 rfl rfl Tryz.sizeOf23 rfl) ?_; refine Wo (v := u2) rfl (opv_load Tryz.isAgg23 rfl ((hB1.ext (E2.trans E3)).cell rfl)) ?_
      refine Wo_call rfl (opc2 (a := u2) (b := .func _ _ _) Tryz.call42 rfl rfl) (k2 _ _ ((Mono.mono ((E1.trans E2).trans E3) h2))) ?_; rintro _ w4 ⟨rfl, E4⟩; have hs4 := E4.size; refine Wo rfl (opv_not rfl) ?_
      refine Wo rfl (opv_assign (v := .bool _) rfl) ?_; refine Wo_nil ?_; refine W_ret ?_; refine at_ret (v := .bool _) rfl ?_; refine ⟨congrArg Value.bool ?_, (((E1.trans E2).trans E3).trans E4)⟩; rotate_left
    · exact (decide_eq_false fun h => absurd h.1 (by assumption)).symm
    · exact (decide_eq_false fun h => by have := h.2.1; simp only at this; omega).symm
    · rw [Bool.eq_iff_iff, decide_eq_true_iff, Bool.not_eq_true', List.any_eq_false]
      unfold DkOk
      simp only
      constructor
      · intro h9
        exact ⟨by assumption, by omega, fun q hq => by simpa using h9 q hq⟩
      · rintro ⟨_, _, h9⟩ q hq
        simpa using h9 q hq
  · have hd : decide (DkOk ⟨p, pp⟩) = false := decide_eq_false fun h => hp h.1.1
    rw [hd]
    have k0 : ∀ (w : World) (v : Value), ESl Ints w v p → Does Tryz.prog 40 [v] w (Ret w (.bool false)) := fun w v h => by
      have := isPicture_ok w v p h; rwa [decide_eq_false hp] at this
    focus
      refine W_seq ?_; refine W_region rfl ?_; refine Wo_box rfl rfl rfl ?_; rintro b1 w1 hb1 E1 hB1; have hlb1 := hB1.lt; have hs1 := E1.size; refine Wo rfl (opv_assign (v := .bool _) rfl) ?_; refine Wo_nil ?_; refine W_seq ?_
      refine W_seq ?_; refine W_region rfl ?_; refine Wo rfl (opv_fieldAddr Tryz.underlying28 rfl rfl Tryz.sizeOf22 rfl) ?_; refine Wo (v := u1) rfl (opv_load Tryz.isAgg22 rfl (hB1.cell rfl)) ?_
      refine Wo_call rfl (opc1 (a := u1) Tryz.call40 rfl) (k0 _ _ ((Mono.mono E1 h1))) ?_; rintro _ w2 ⟨rfl, E2⟩; have hs2 := E2.size; refine Wo rfl (opv_not rfl) ?_
      refine Wo_split rfl (opv_move (v := .bool _) rfl) (fun h3 => ?_) (fun h3 => ?_); refine Wo_skip rfl ?_; refine Wo_skip rfl ?_; refine Wo_skip rfl ?_; refine Wo_skip rfl ?_; refine Wo rfl (opv_pick_t (v := .bool _) rfl rfl) ?_
      refine Wo rfl (opv_move (v := .bool _) rfl) ?_; refine Wo_skip rfl ?_; refine Wo_skip rfl ?_; refine Wo_skip rfl ?_; refine Wo_skip rfl ?_; refine Wo rfl (opv_pick_t (v := .bool _) rfl rfl) ?_; refine Wo_nil ?_
      refine W_cond_true rfl ?_; refine W_seq ?_; refine W_region rfl ?_; refine Wo rfl (opv_assign (v := .bool _) rfl) ?_; refine Wo_nil ?_; refine W_ret ?_; exact ⟨rfl, (E1.trans E2)⟩; contradiction

open Classical in
theorem impl_DeskOk_ok (w : World) (u1 u2 : Value) (d : Dsk) (h1 : ESl Ints w u1 d.now) (h2 : ESl (ESl Ints) w u2 d.past) : Does Tryz.prog 9 [.agg #[u1, u2]] w (Ret w (.bool (decide (DkOk d)))) := by
  have icu1 : isCell u1 = true := ESl_isC h1
  have icu2 : isCell u2 = true := ESl_isC h2
  refine fn_of_W1 Tryz.func9 rfl Tryz.results9 Tryz.ntmps9 rfl ?_
  have k1 := fun (w : World) (h1 : ESl Ints w u1 d.now) (h2 : ESl (ESl Ints) w u2 d.past) => isDesk_ok w u1 u2 d h1 h2
  focus
    refine W_seq ?_; refine W_region rfl ?_; refine Wo_box rfl rfl rfl ?_; rintro b1 w1 hb1 E1 hB1; have hlb1 := hB1.lt; have hs1 := E1.size; refine Wo rfl (opv_assign (v := .bool _) rfl) ?_; refine Wo_nil ?_; refine W_seq ?_
    refine W_region rfl ?_; refine Wo (v := .agg _) rfl (opv_load2 Tryz.isAgg28 Tryz.sizeOf28 rfl hB1) ?_; refine Wo_call rfl (opc1 (a := .agg _) Tryz.call24 rfl) (k1 _ ((Mono.mono E1 h1)) ((Mono.mono E1 h2))) ?_; rintro _ w2 ⟨rfl, E2⟩
    have hs2 := E2.size; refine Wo rfl (opv_assign (v := .bool _) rfl) ?_; refine Wo_nil ?_; refine W_ret ?_; exact ⟨rfl, (E1.trans E2)⟩

end Go.Proofs.YtgphoihilheoeaaGreatDoor
set_option linter.unusedVariables false
set_option linter.unusedSimpArgs false
namespace Go.Hs
section
variable {P : Program} {lo br m cr i o : Nat} {v : Value} {e e2 : TypeId}
end
section
variable {P : Program} {n : Nat} {N : Env → World → Prop} {ρ : Env} {w w0 : World} {all : Array Oper} {rest : List Oper} {d : Nat} {ty t t2 el e e2 : TypeId} {pos : String} {after : Array Edge} {g : Option (Nat × Bool)} {x y : Operand} {v u : Value} {lo hi' br m cr i o dl dc : Nat} {xs : List Int} {p : List (List Int)}
end
end Go.Hs
namespace Go.Proofs.YtgphoihilheoeaaGreatDoor
open Go.Hs
set_option maxRecDepth 10000
set_option maxHeartbeats 4000000
set_option linter.unusedVariables false
set_option linter.unusedSimpArgs false
end Go.Proofs.YtgphoihilheoeaaGreatDoor
namespace Go.Proofs.YtgphoihilheoeaaGreatDoor
open Go.Hs
set_option maxRecDepth 10000
set_option maxHeartbeats 4000000
set_option linter.unusedVariables false

theorem pick_ok {w0 : World} (w : World) {br m : Nat} (n : Int) (hr : Rdr w0 w br m) (hm : m ≤ 1000000000) :
    Does Tryz.prog 46 [.pointer (some ⟨br, 0, none⟩), .int .i64 n] w (RetD w0 w br (m + 1) (fun x : Nat => .int .i64 (x : Int)) (fun x _ => 1 ≤ n → (x : Int) < n)) := by
  obtain ⟨E0, hge, hlt, vb, bs, p, hb, hlen, hB, hp⟩ := hr
  have hbs := hb.le
  refine fn_of_W1 Tryz.func46 rfl Tryz.results46 Tryz.ntmps46 rfl ?_
  have hG : w.grownBy w (some br) := grownBy_refl _ _
  have hp1 : (p : Int) + 1 - 1 = p := by omega
  rcases Nat.eq_zero_or_pos bs.length with h0 | h0
  · have e0 : bs = [] := List.eq_nil_of_length_eq_zero h0
    focus
      have szE0 := E0.size; refine W_seq ?_; refine W_region rfl ?_; refine Wo rfl (opv_assign (v := .int _ _) rfl) ?_; refine Wo_nil ?_; refine W_seq ?_; refine W_region rfl ?_; refine Wo rfl (opv_move (v := .pointer _) rfl) ?_
      refine Wo rfl (opv_move (v := .pointer _) rfl) ?_; refine Wo rfl (opv_nilCheck rfl) ?_; refine Wo rfl (opv_fieldAddr Tryz.underlying66 rfl rfl Tryz.sizeOf3 rfl) ?_
      refine Wo (v := .int _ _) rfl (opv_load Tryz.isAgg3 rfl (hB.cell rfl)) ?_; refine Wo rfl (opv_add rfl rfl (by omega)) ?_; refine Wo rfl (opv_nilCheck rfl) ?_
      refine Wo rfl (opv_fieldAddr Tryz.underlying66 rfl rfl Tryz.sizeOf3 rfl) ?_; refine Wo_st (v := .int _ _) rfl Tryz.sizeOf3 rfl rfl rfl hB (by simp) (by omega) E0 ?_; rintro w1 E1 hB K1 hz1; simp only [List.set] at hB
      have hG := grownBy_wrote hG E0 E1 K1 hz1 (by first | exact .inr rfl | omega); refine Wo_nil ?_; refine W_seq ?_; refine W_seq ?_; refine W_region rfl ?_; refine Wo rfl (opv_move (v := .int _ _) rfl) ?_
      refine Wo rfl (opv_lss rfl rfl) ?_; refine Wo_split_dec rfl (opv_move (v := .bool _) rfl) (fun h1 => ?_) (fun h1 => ?_); refine Wo_skip rfl ?_; refine Wo_skip rfl ?_; refine Wo_skip rfl ?_; refine Wo_skip rfl ?_
      refine Wo_skip rfl ?_; refine Wo_skip rfl ?_; refine Wo rfl (opv_pick_t (v := .bool _) rfl rfl) ?_; refine Wo_nil ?_; refine W_cond_true rfl ?_; refine W_seq ?_; refine W_region rfl ?_
      refine Wo rfl (opv_assign (v := .int _ _) rfl) ?_; refine Wo_nil ?_; refine W_ret ?_; refine at_ret (v := .int _ _) rfl ?_; rotate_left; refine Wo rfl (opv_move (v := .pointer _) rfl) ?_; refine Wo rfl (opv_nilCheck rfl) ?_
      refine Wo rfl (opv_fieldAddr Tryz.underlying66 rfl rfl Tryz.sizeOf32 rfl) ?_; refine Wo (v := vb) rfl (opv_load Tryz.isAgg32 rfl (hB.cell rfl)) ?_; refine Wo rfl (opv_len Tryz.underlying32 rfl hb) ?_
      refine Wo rfl (opv_eql rfl rfl) ?_; refine Wo rfl (opv_pick_f (v := .bool _) rfl rfl) ?_; refine Wo_nil ?_; refine W_cond_dec rfl (fun h2 => ?_) (fun h2 => ?_); refine W_seq ?_; refine W_region rfl ?_
      refine Wo rfl (opv_assign (v := .int _ _) rfl) ?_; refine Wo_nil ?_; refine W_ret ?_; refine at_ret (v := .int _ _) rfl ?_; rotate_left; (exfalso; omega)
    all_goals exact ⟨0, rfl, hG, ⟨by assumption, hge, hB.lt, vb, bs, p + 1, hb, hlen, hB, by omega⟩, fun h => by omega⟩
  have hL : (0 : Int) < (bs.length : Int) := by omega
  have hm1 := Int.emod_lt_of_pos (p : Int) hL
  have hm2 := Int.emod_nonneg (p : Int) (show (bs.length : Int) ≠ 0 by omega)
  have hm3 := Int.emod_lt_of_pos ((p : Int) * 7 + 3) hL
  have hm4 := Int.emod_nonneg ((p : Int) * 7 + 3) (show (bs.length : Int) ≠ 0 by omega)
  have hm5 : (p : Int) / (bs.length : Int) ≤ p := Int.ediv_le_self _ (by omega)
  have hm6 : 0 ≤ (p : Int) / (bs.length : Int) := Int.ediv_nonneg (by omega) (by omega)
  have hm1 := Int.emod_lt_of_pos ((p : Int) + 1 - 1) hL
  have hm2 := Int.emod_nonneg ((p : Int) + 1 - 1) (show (bs.length : Int) ≠ 0 by omega)
  have hm3 := Int.emod_lt_of_pos (((p : Int) + 1 - 1) * 7 + 3) hL
  have hm4 := Int.emod_nonneg (((p : Int) + 1 - 1) * 7 + 3) (show (bs.length : Int) ≠ 0 by omega)
  have hm5 : ((p : Int) + 1 - 1) / (bs.length : Int) ≤ p := by rw [hp1]; exact hm5
  have hm6 : 0 ≤ ((p : Int) + 1 - 1) / (bs.length : Int) := by rw [hp1]; exact hm6
  focus
    have szE0 := E0.size; refine W_seq ?_; refine W_region rfl ?_; refine Wo rfl (opv_assign (v := .int _ _) rfl) ?_; refine Wo_nil ?_; refine W_seq ?_; refine W_region rfl ?_; refine Wo rfl (opv_move (v := .pointer _) rfl) ?_
    refine Wo rfl (opv_move (v := .pointer _) rfl) ?_; refine Wo rfl (opv_nilCheck rfl) ?_; refine Wo rfl (opv_fieldAddr Tryz.underlying66 rfl rfl Tryz.sizeOf3 rfl) ?_
    refine Wo (v := .int _ _) rfl (opv_load Tryz.isAgg3 rfl (hB.cell rfl)) ?_; refine Wo rfl (opv_add rfl rfl (by omega)) ?_; refine Wo rfl (opv_nilCheck rfl) ?_
    refine Wo rfl (opv_fieldAddr Tryz.underlying66 rfl rfl Tryz.sizeOf3 rfl) ?_; refine Wo_st (v := .int _ _) rfl Tryz.sizeOf3 rfl rfl rfl hB (by simp) (by omega) E0 ?_; rintro w1 E1 hB K1 hz1; simp only [List.set] at hB
    have hG := grownBy_wrote hG E0 E1 K1 hz1 (by first | exact .inr rfl | omega); refine Wo_nil ?_; refine W_seq ?_; refine W_seq ?_; refine W_region rfl ?_; refine Wo rfl (opv_move (v := .int _ _) rfl) ?_
    refine Wo rfl (opv_lss rfl rfl) ?_; refine Wo_split_dec rfl (opv_move (v := .bool _) rfl) (fun h1 => ?_) (fun h1 => ?_); refine Wo_skip rfl ?_; refine Wo_skip rfl ?_; refine Wo_skip rfl ?_; refine Wo_skip rfl ?_
    refine Wo_skip rfl ?_; refine Wo_skip rfl ?_; refine Wo rfl (opv_pick_t (v := .bool _) rfl rfl) ?_; refine Wo_nil ?_; refine W_cond_true rfl ?_; refine W_seq ?_; refine W_region rfl ?_
    refine Wo rfl (opv_assign (v := .int _ _) rfl) ?_; refine Wo_nil ?_; refine W_ret ?_; refine at_ret (v := .int _ _) rfl ?_; rotate_left; refine Wo rfl (opv_move (v := .pointer _) rfl) ?_; refine Wo rfl (opv_nilCheck rfl) ?_
    refine Wo rfl (opv_fieldAddr Tryz.underlying66 rfl rfl Tryz.sizeOf32 rfl) ?_; refine Wo (v := vb) rfl (opv_load Tryz.isAgg32 rfl (hB.cell rfl)) ?_; refine Wo rfl (opv_len Tryz.underlying32 rfl hb) ?_
    refine Wo rfl (opv_eql rfl rfl) ?_; refine Wo rfl (opv_pick_f (v := .bool _) rfl rfl) ?_; refine Wo_nil ?_; refine W_cond_dec rfl (fun h2 => ?_) (fun h2 => ?_); (exfalso; omega); refine W_skip ?_; refine W_seq ?_
    refine W_region rfl ?_; refine Wo rfl (opv_move (v := .pointer _) rfl) ?_; refine Wo rfl (opv_nilCheck rfl) ?_; refine Wo rfl (opv_fieldAddr Tryz.underlying66 rfl rfl Tryz.sizeOf3 rfl) ?_
    refine Wo (v := .int _ _) rfl (opv_load Tryz.isAgg3 rfl (hB.cell rfl)) ?_; refine Wo rfl (opv_sub rfl rfl (by omega)) ?_; refine Wo rfl (opv_assign (v := .int _ _) rfl) ?_; refine Wo_nil ?_; refine W_seq ?_; refine W_seq ?_
    refine W_region rfl ?_; refine Wo rfl (opv_move (v := .int _ _) rfl) ?_; refine Wo rfl (opv_move (v := .pointer _) rfl) ?_; refine Wo rfl (opv_nilCheck rfl) ?_
    refine Wo rfl (opv_fieldAddr Tryz.underlying66 rfl rfl Tryz.sizeOf32 rfl) ?_; refine Wo (v := vb) rfl (opv_load Tryz.isAgg32 rfl (hB.cell rfl)) ?_; refine Wo rfl (opv_len Tryz.underlying32 rfl hb) ?_
    refine Wo rfl (opv_lss rfl rfl) ?_; refine Wo_nil ?_; refine W_cond_dec rfl (fun h3 => ?_) (fun h3 => ?_); refine W_seq ?_; refine W_region rfl ?_; refine Wo rfl (opv_move (v := .pointer _) rfl) ?_
    refine Wo rfl (opv_nilCheck rfl) ?_; refine Wo rfl (opv_fieldAddr Tryz.underlying66 rfl rfl Tryz.sizeOf32 rfl) ?_; refine Wo (v := vb) rfl (opv_load Tryz.isAgg32 rfl (hB.cell rfl)) ?_; refine Wo rfl (opv_move (v := .int _ _) rfl) ?_
    refine Wo_getB_z Tryz.underlying32 Tryz.sizeOf5 Tryz.isAgg5 rfl (fun _ => rfl) rfl hb E1 rfl (by first | omega | (simp <;> omega)) ?_; rintro _ n1 hn1 hn1'
    refine Wo rfl (opv_conv_int Tryz.underlying5 Tryz.underlying3 rfl (by omega)) ?_; refine Wo rfl (opv_move (v := .int _ _) rfl) ?_; refine Wo rfl (opv_rem rfl rfl (by omega)) ?_; refine Wo rfl (opv_assign (v := .int _ _) rfl) ?_
    refine Wo_nil ?_; refine W_ret ?_; refine at_ret (v := .int _ _) rfl ?_; rotate_left; refine W_skip ?_; refine W_seq ?_; refine W_draw mixed (by kernel_rfl) rfl ?_; refine Wq_o rfl (fun _ _ => opv_move (v := .pointer _) rfl) ?_
    refine Wq_o rfl (fun _ _ => opv_nilCheck rfl) ?_; refine Wq_o rfl (fun _ _ => opv_fieldAddr Tryz.underlying66 rfl rfl Tryz.sizeOf32 rfl) ?_
    refine Wq_o (v := vb) rfl (fun w' hw' => opv_load Tryz.isAgg32 rfl ((hB.ext hw').cell rfl)) ?_; refine Wq_o rfl (fun _ _ => opv_move (v := .int _ _) rfl) ?_; refine Wq_o rfl (fun _ _ => opv_move (v := .pointer _) rfl) ?_
    refine Wq_o rfl (fun _ _ => opv_nilCheck rfl) ?_; refine Wq_o rfl (fun _ _ => opv_fieldAddr Tryz.underlying66 rfl rfl Tryz.sizeOf32 rfl) ?_
    refine Wq_o (v := vb) rfl (fun w' hw' => opv_load Tryz.isAgg32 rfl ((hB.ext hw').cell rfl)) ?_; refine Wq_o rfl (fun _ _ => opv_len Tryz.underlying32 rfl hb) ?_; refine Wq_o rfl (fun _ _ => opv_rem rfl rfl (by omega)) ?_
    refine Wq_getB_z Tryz.underlying32 Tryz.sizeOf5 Tryz.isAgg5 rfl (fun _ => rfl) rfl hb E1 rfl (by first | omega | (simp <;> omega)) ?_; rintro _ n1 hn1 hn1'
    refine Wq_o rfl (fun _ _ => opv_conv_int Tryz.underlying5 Tryz.underlying3 rfl (by omega)) ?_; refine Wq_o rfl (fun _ _ => opv_mul rfl rfl (by omega)) ?_; refine Wq_o rfl (fun _ _ => opv_move (v := .pointer _) rfl) ?_
    refine Wq_o rfl (fun _ _ => opv_nilCheck rfl) ?_; refine Wq_o rfl (fun _ _ => opv_fieldAddr Tryz.underlying66 rfl rfl Tryz.sizeOf32 rfl) ?_
    refine Wq_o (v := vb) rfl (fun w' hw' => opv_load Tryz.isAgg32 rfl ((hB.ext hw').cell rfl)) ?_; refine Wq_o rfl (fun _ _ => opv_move (v := .int _ _) rfl) ?_; refine Wq_o rfl (fun _ _ => opv_mul rfl rfl (by omega)) ?_
    refine Wq_o rfl (fun _ _ => opv_add rfl rfl (by omega)) ?_; refine Wq_o rfl (fun _ _ => opv_move (v := .pointer _) rfl) ?_; refine Wq_o rfl (fun _ _ => opv_nilCheck rfl) ?_
    refine Wq_o rfl (fun _ _ => opv_fieldAddr Tryz.underlying66 rfl rfl Tryz.sizeOf32 rfl) ?_; refine Wq_o (v := vb) rfl (fun w' hw' => opv_load Tryz.isAgg32 rfl ((hB.ext hw').cell rfl)) ?_
    refine Wq_o rfl (fun _ _ => opv_len Tryz.underlying32 rfl hb) ?_; refine Wq_o rfl (fun _ _ => opv_rem rfl rfl (by omega)) ?_
    refine Wq_getB_z Tryz.underlying32 Tryz.sizeOf5 Tryz.isAgg5 rfl (fun _ => rfl) rfl hb E1 rfl (by first | omega | (simp <;> omega)) ?_; rintro _ n2 hn2 hn2'
    refine Wq_o rfl (fun _ _ => opv_conv_int Tryz.underlying5 Tryz.underlying3 rfl (by omega)) ?_; refine Wq_o rfl (fun _ _ => opv_mul rfl rfl (by omega)) ?_; refine Wq_o rfl (fun _ _ => opv_add rfl rfl (by omega)) ?_
    refine Wq_o rfl (fun _ _ => opv_move (v := .int _ _) rfl) ?_; refine Wq_o rfl (fun _ _ => opv_mul rfl rfl (by omega)) ?_; refine Wq_o rfl (fun _ _ => opv_add rfl rfl (by omega)) ?_
    refine Wq_o rfl (fun _ _ => opv_move (v := .int _ _) rfl) ?_; refine Wq_o rfl (fun _ _ => opv_move (v := .pointer _) rfl) ?_; refine Wq_o rfl (fun _ _ => opv_nilCheck rfl) ?_
    refine Wq_o rfl (fun _ _ => opv_fieldAddr Tryz.underlying66 rfl rfl Tryz.sizeOf32 rfl) ?_; refine Wq_o (v := vb) rfl (fun w' hw' => opv_load Tryz.isAgg32 rfl ((hB.ext hw').cell rfl)) ?_
    refine Wq_o rfl (fun _ _ => opv_len Tryz.underlying32 rfl hb) ?_; refine Wq_o rfl (fun _ _ => opv_quo rfl rfl (by omega)) ?_; refine Wq_o rfl (fun _ _ => opv_mul rfl rfl (by omega)) ?_
    refine Wq_o rfl (fun _ _ => opv_add rfl rfl (by omega)) ?_; refine Wq_o rfl (fun _ _ => opv_assign (v := .int _ _) rfl) ?_; refine Wq_nil (fun w2 E2 => ?_); have hG := grownBy_ext hG E2; have hs1 := E2.size; refine W_seq ?_
    refine W_region rfl ?_; refine Wo rfl (opv_move (v := .int _ _) rfl) ?_; refine Wo rfl (opv_move (v := .int _ _) rfl) ?_; refine Wo rfl (opv_quo rfl rfl (by omega)) ?_; refine Wo rfl (opv_xor rfl rfl (by omega)) ?_
    refine Wo rfl (opv_assign (v := .int _ _) rfl) ?_; refine Wo_nil ?_; refine W_seq ?_; refine W_region rfl ?_; refine Wo rfl (opv_move (v := .int _ _) rfl) ?_; refine Wo rfl (opv_move (v := .int _ _) rfl) ?_
    refine Wo rfl (opv_rem rfl rfl (by omega)) ?_; refine Wo rfl (opv_assign (v := .int _ _) rfl) ?_; refine Wo_nil ?_; refine W_ret ?_; refine at_ret (v := .int _ _) rfl ?_; rotate_left
  · exact ⟨0, rfl, hG, ⟨by assumption, hge, hB.lt, vb, bs, p + 1, hb, hlen, hB, by omega⟩, fun h => by omega⟩
  · have e := Int.emod_nonneg (n1 : Int) (show n ≠ 0 by omega)
    refine ⟨((n1 : Int) % n).toNat, by simp only [Int.toNat_of_nonneg e], hG, ⟨by assumption, hge, hB.lt, vb, bs, p + 1, hb, hlen, hB, by omega⟩, fun h => ?_⟩
    simp only [Int.toNat_of_nonneg e]
    exact Int.emod_lt_of_pos _ (by omega)
  · refine at_ret (v := .int .i64 _) rfl ?_
    generalize hz : ((((n1 * 131 : Int) + n2 * 1117 + ((p : Int) + 1 - 1) * 29 + ((p : Int) + 1 - 1) / (bs.length : Int) * 53).toNat ^^^ (((n1 * 131 : Int) + n2 * 1117 + ((p : Int) + 1 - 1) * 29 + ((p : Int) + 1 - 1) / (bs.length : Int) * 53) / 64).toNat : Nat) : Int) = z
    have hz0 : 0 ≤ z := by rw [← hz]; omega
    have hB := hB.ext (show Ext w1 w2 by assumption)
    have e := Int.emod_nonneg z (show n ≠ 0 by omega)
    refine ⟨(z % n).toNat, by simp only [Int.toNat_of_nonneg e], hG, ⟨E1.trans (by assumption), hge, hB.lt, vb, bs, p + 1, hb, hlen, hB, by omega⟩, fun h => ?_⟩
    simp only [Int.toNat_of_nonneg e]
    exact Int.emod_lt_of_pos _ (by omega)

theorem odd_ok {w0 : World} (w : World) {br m : Nat} (n : Int) (hr : Rdr w0 w br m) (hm : m ≤ 1000000000) (hn : -1000000 ≤ n ∧ n ≤ 1000000) :
    Does Tryz.prog 64 [.pointer (some ⟨br, 0, none⟩), .int .i64 n] w (RetD w0 w br (m + 1) Value.bool (fun _ _ => True)) := by
  refine fn_of_W1 Tryz.func64 rfl Tryz.results64 Tryz.ntmps64 rfl ?_
  have hG : w.grownBy w (some br) := grownBy_refl _ _
  focus
    refine W_seq ?_; refine W_region rfl ?_; refine Wo rfl (opv_assign (v := .bool _) rfl) ?_; refine Wo_nil ?_; refine W_seq ?_; refine W_region rfl ?_; refine Wo rfl (opv_move (v := .int _ _) rfl) ?_
    refine Wo rfl (opv_gtr rfl rfl) ?_; refine Wo_split_dec rfl (opv_move (v := .bool _) rfl) (fun h1 => ?_) (fun h1 => ?_); refine Wo rfl (opv_move (v := .pointer _) rfl) ?_; refine Wo rfl (opv_move (v := .int _ _) rfl) ?_
    refine Wo_call rfl (opc2 (a := .pointer _) (b := .int _ _) Tryz.call46 rfl rfl) (pick_ok _ _ (by assumption) (by assumption)) ?_; rintro _ w1 ⟨y1, rfl, E1, hr1, hy1⟩; (try dsimp only at hy1); have hlhr1 := hr1.lt
    have Ehr1 := hr1.old; have hG := grownBy_trans hG E1; have hs1 := E1.size; refine Wo rfl (opv_move (v := .int _ _) rfl) ?_; refine Wo rfl (opv_sub rfl rfl (by omega)) ?_; refine Wo rfl (opv_eql rfl rfl) ?_
    refine Wo rfl (opv_pick_t (v := .bool _) rfl rfl) ?_; refine Wo rfl (opv_assign (v := .bool _) rfl) ?_; refine Wo_nil ?_; refine W_ret ?_; refine at_ret (v := .bool _) rfl ?_; rotate_left; refine Wo_skip rfl ?_
    refine Wo_skip rfl ?_; refine Wo_skip rfl ?_; refine Wo_skip rfl ?_; refine Wo_skip rfl ?_; refine Wo_skip rfl ?_; refine Wo rfl (opv_pick_f (v := .bool _) rfl rfl) ?_; refine Wo rfl (opv_assign (v := .bool _) rfl) ?_
    refine Wo_nil ?_; refine W_ret ?_; refine at_ret (v := .bool _) rfl ?_; rotate_left
  all_goals first | exact ⟨_, rfl, hG, hr1, trivial⟩ | exact ⟨_, rfl, hG, hr.le (by omega), trivial⟩


theorem flat66 : Flat Tryz.prog 66 [.slice none 0 0, .int .i64 0] := ⟨_, Tryz.underlying66, fun _ => by kernel_rfl, fun _ => by kernel_rfl⟩
theorem open_ok (w : World) (v : Value) (xs : List UInt8) (h : Bytes w v xs) (hc : CapOk v) :
    Does Tryz.prog 28 [v] w (RetX w (fun br : Nat => .pointer (some ⟨br, 0, none⟩)) (fun br w' => Rdr w w' br 0)) := by
  refine fn_of_W1 Tryz.func28 rfl Tryz.results28 Tryz.ntmps28 rfl ?_
  have hl := h.le
  obtain ⟨a, c, rfl, hR⟩ := id h
  obtain ⟨a', l', c', e, hcap⟩ := hc
  cases e
  by_cases h2 : 2000 < xs.length
  · obtain ⟨b, o, u, rfl, _⟩ := hR.at (show 0 < xs.length by omega)
    have hT := h.take (cap' := c) 2000 (by omega)
    focus
      refine W_seq ?_; refine W_region rfl ?_; refine Wo rfl (opv_assign (v := .pointer _) rfl) ?_; refine Wo_nil ?_; refine W_seq ?_; refine W_seq ?_; refine W_region rfl ?_; refine Wo rfl (opv_move (v := .slice _ _ _) rfl) ?_
      refine Wo rfl (opv_len Tryz.underlying32 rfl h) ?_; refine Wo rfl (opv_gtr rfl rfl) ?_; refine Wo_nil ?_; refine W_cond_dec rfl (fun h1 => ?_) (fun h1 => ?_); refine W_region rfl ?_
      refine Wo rfl (opv_move (v := .slice _ _ _) rfl) ?_; refine Wo rfl (opv_slice_sl_hi Tryz.underlying32 Tryz.sizeOf5 rfl rfl (by omega)) ?_; refine Wo rfl (opv_assign (v := .slice _ _ _) rfl) ?_; refine Wo_nil ?_; refine W_seq ?_
      refine W_region rfl ?_; refine Wo rfl (opv_move (v := .slice _ _ _) rfl) ?_; refine Wo rfl (opv_build (ps := [(0, .slice _ _ _)]) (cs := [_, _]) flat66 rfl rfl) ?_; refine Wo_box rfl rfl rfl ?_; rintro b1 w1 hb1 E1 hB1
      have hlb1 := hB1.lt; have hs1 := E1.size; refine Wo rfl (opv_assign (v := .pointer _) rfl) ?_; refine Wo_nil ?_; refine W_ret ?_; refine at_ret (v := .pointer _) rfl ?_; refine ⟨E1, _, rfl, ?_⟩; (try dsimp only); rotate_left
      (exfalso; omega)
    all_goals exact ⟨by assumption, by assumption, by assumption, _, _, 0, hT, by simp; omega, by assumption, by omega⟩
  · focus
      refine W_seq ?_; refine W_region rfl ?_; refine Wo rfl (opv_assign (v := .pointer _) rfl) ?_; refine Wo_nil ?_; refine W_seq ?_; refine W_seq ?_; refine W_region rfl ?_; refine Wo rfl (opv_move (v := .slice _ _ _) rfl) ?_
      refine Wo rfl (opv_len Tryz.underlying32 rfl h) ?_; refine Wo rfl (opv_gtr rfl rfl) ?_; refine Wo_nil ?_; refine W_cond_dec rfl (fun h1 => ?_) (fun h1 => ?_); (exfalso; omega); refine W_skip ?_; refine W_seq ?_
      refine W_region rfl ?_; refine Wo rfl (opv_move (v := .slice _ _ _) rfl) ?_; refine Wo rfl (opv_build (ps := [(0, .slice _ _ _)]) (cs := [_, _]) flat66 rfl rfl) ?_; refine Wo_box rfl rfl rfl ?_; rintro b1 w1 hb1 E1 hB1
      have hlb1 := hB1.lt; have hs1 := E1.size; refine Wo rfl (opv_assign (v := .pointer _) rfl) ?_; refine Wo_nil ?_; refine W_ret ?_; refine at_ret (v := .pointer _) rfl ?_; refine ⟨E1, _, rfl, ?_⟩; (try dsimp only)
    all_goals exact ⟨by assumption, by assumption, by assumption, _, _, 0, h, by omega, by assumption, by omega⟩
end Go.Proofs.YtgphoihilheoeaaGreatDoor
namespace Go.Proofs.YtgphoihilheoeaaGreatDoor
open Go.Hs
set_option maxRecDepth 10000
set_option maxHeartbeats 4000000
set_option linter.unusedVariables false
set_option linter.unusedSimpArgs false

theorem isCode_ok (n : Int) (w : World) : Does Tryz.prog 58 [.int .i64 n] w (Ret w (.bool (decide (0 ≤ n ∧ n ≤ 65535)))) := by
  refine fn_of_W1 Tryz.func58 rfl Tryz.results58 Tryz.ntmps58 rfl ?_
  focus
    refine W_seq ?_; refine W_region rfl ?_; refine Wo rfl (opv_assign (v := .bool _) rfl) ?_; refine Wo_nil ?_; refine W_seq ?_; refine W_region rfl ?_; refine Wo rfl (opv_move (v := .int _ _) rfl) ?_
    refine Wo rfl (opv_geq rfl rfl) ?_; refine Wo_split_dec rfl (opv_move (v := .bool _) rfl) (fun h1 => ?_) (fun h1 => ?_); refine Wo rfl (opv_move (v := .int _ _) rfl) ?_; refine Wo rfl (opv_leq rfl rfl) ?_
    refine Wo rfl (opv_pick_t (v := .bool _) rfl rfl) ?_; refine Wo rfl (opv_assign (v := .bool _) rfl) ?_; refine Wo_nil ?_; refine W_ret ?_; refine at_ret (v := .bool _) rfl ?_; refine ⟨congrArg Value.bool ?_, (Ext.refl _)⟩
    rotate_left; refine Wo_skip rfl ?_; refine Wo_skip rfl ?_; refine Wo rfl (opv_pick_f (v := .bool _) rfl rfl) ?_; refine Wo rfl (opv_assign (v := .bool _) rfl) ?_; refine Wo_nil ?_; refine W_ret ?_
    refine at_ret (v := .bool _) rfl ?_; refine ⟨congrArg Value.bool ?_, (Ext.refl _)⟩; rotate_left
  · exact decide_eq_decide.2 (by omega)
  · exact (decide_eq_false (by omega)).symm

def hasC (n m : Int) : Bool := decide (0 ≤ n ∧ n ≤ 65535 ∧ 0 ≤ m ∧ m ≤ 15) && n.toNat.testBit m.toNat
theorem and_one (x : Nat) (k : Nat) : (((x >>> k) &&& 1 : Nat) : Int) = 1 ↔ x.testBit k = true := by
  rw [Nat.testBit_eq_decide_div_mod_eq, Nat.and_one_is_mod, Nat.shiftRight_eq_div_pow, decide_eq_true_iff]
  generalize x / 2 ^ k = q
  omega
theorem Has_ok (n m : Int) (w : World) : Does Tryz.prog 34 [.int .i64 n, .int .i64 m] w (Ret w (.bool (hasC n m))) := by
  refine fn_of_W1 Tryz.func34 rfl Tryz.results34 Tryz.ntmps34 rfl ?_
  focus
    refine W_seq ?_; refine W_region rfl ?_; refine Wo rfl (opv_assign (v := .bool _) rfl) ?_; refine Wo_nil ?_; refine W_seq ?_; refine W_region rfl ?_; refine Wo rfl (opv_move (v := .int _ _) rfl) ?_
    refine Wo_call rfl (opc1 (a := .int _ _) Tryz.call58 rfl) (isCode_ok _ _) ?_; rintro _ w1 ⟨rfl, E1⟩; have hs1 := E1.size; refine Wo_split_dec rfl (opv_move (v := .bool _) rfl) (fun h1 => ?_) (fun h1 => ?_)
    refine Wo rfl (opv_move (v := .int _ _) rfl) ?_; refine Wo_call rfl (opc1 (a := .int _ _) Tryz.call58 rfl) (isCode_ok _ _) ?_; rintro _ w2 ⟨rfl, E2⟩; have hs2 := E2.size; refine Wo rfl (opv_pick_t (v := .bool _) rfl rfl) ?_
    refine Wo_split_dec rfl (opv_move (v := .bool _) rfl) (fun h2 => ?_) (fun h2 => ?_); refine Wo rfl (opv_move (v := .int _ _) rfl) ?_; refine Wo rfl (opv_leq rfl rfl) ?_; refine Wo rfl (opv_pick_t (v := .bool _) rfl rfl) ?_
    refine Wo_split_dec rfl (opv_move (v := .bool _) rfl) (fun h3 => ?_) (fun h3 => ?_); refine Wo rfl (opv_move (v := .int _ _) rfl) ?_; refine Wo rfl (opv_move (v := .int _ _) rfl) ?_; refine Wo rfl (opv_shr rfl rfl (by omega)) ?_
    refine Wo rfl (opv_and rfl rfl ⟨Int.natCast_nonneg _, by omega⟩) ?_; refine Wo rfl (opv_eql rfl rfl) ?_; refine Wo rfl (opv_pick_t (v := .bool _) rfl rfl) ?_; refine Wo rfl (opv_assign (v := .bool _) rfl) ?_; refine Wo_nil ?_
    refine W_ret ?_; refine at_ret (v := .bool _) rfl ?_; refine ⟨congrArg Value.bool ?_, (E1.trans E2)⟩; rotate_left; refine Wo_skip rfl ?_; refine Wo_skip rfl ?_; refine Wo_skip rfl ?_; refine Wo_skip rfl ?_; refine Wo_skip rfl ?_
    refine Wo rfl (opv_pick_f (v := .bool _) rfl rfl) ?_; refine Wo rfl (opv_assign (v := .bool _) rfl) ?_; refine Wo_nil ?_; refine W_ret ?_; refine at_ret (v := .bool _) rfl ?_; refine ⟨congrArg Value.bool ?_, (E1.trans E2)⟩
    rotate_left; refine Wo_skip rfl ?_; refine Wo_skip rfl ?_; refine Wo rfl (opv_pick_f (v := .bool _) rfl rfl) ?_; refine Wo rfl (opv_move (v := .bool _) rfl) ?_; refine Wo_skip rfl ?_; refine Wo_skip rfl ?_; refine Wo_skip rfl ?_
    refine Wo_skip rfl ?_; refine Wo_skip rfl ?_; refine Wo rfl (opv_pick_f (v := .bool _) rfl rfl) ?_; refine Wo rfl (opv_assign (v := .bool _) rfl) ?_; refine Wo_nil ?_; refine W_ret ?_; refine at_ret (v := .bool _) rfl ?_
    refine ⟨congrArg Value.bool ?_, (E1.trans E2)⟩; rotate_left; refine Wo_skip rfl ?_; refine Wo_skip rfl ?_; refine Wo rfl (opv_pick_f (v := .bool _) rfl rfl) ?_; refine Wo rfl (opv_move (v := .bool _) rfl) ?_; refine Wo_skip rfl ?_
    refine Wo_skip rfl ?_; refine Wo rfl (opv_pick_f (v := .bool _) rfl rfl) ?_; refine Wo rfl (opv_move (v := .bool _) rfl) ?_; refine Wo_skip rfl ?_; refine Wo_skip rfl ?_; refine Wo_skip rfl ?_; refine Wo_skip rfl ?_
    refine Wo_skip rfl ?_; refine Wo rfl (opv_pick_f (v := .bool _) rfl rfl) ?_; refine Wo rfl (opv_assign (v := .bool _) rfl) ?_; refine Wo_nil ?_; refine W_ret ?_; refine at_ret (v := .bool _) rfl ?_
    refine ⟨congrArg Value.bool ?_, E1⟩; rotate_left
  · have hn : 0 ≤ n ∧ n ≤ 65535 ∧ 0 ≤ m ∧ m ≤ 15 := by omega
    unfold hasC
    rw [decide_eq_true hn, Bool.true_and, Bool.eq_iff_iff, decide_eq_true_iff]
    exact and_one _ _
  all_goals
    have hn : ¬ (0 ≤ n ∧ n ≤ 65535 ∧ 0 ≤ m ∧ m ≤ 15) := by omega
    unfold hasC
    rw [decide_eq_false hn]; rfl

theorem alive_ok (w : World) : Does Tryz.prog 16 [] w (Ret w (.bool true)) := by
  have h1 : ∀ w, Does Tryz.prog 34 [.int .i64 5, .int .i64 2] w (Ret w (.bool true)) := fun w => by
    have := Has_ok 5 2 w
    have e : hasC 5 2 = true := by decide
    rw [e] at this; exact this
  have h2 : ∀ w, Does Tryz.prog 34 [.int .i64 5, .int .i64 1] w (Ret w (.bool false)) := fun w => by
    have := Has_ok 5 1 w
    have e : hasC 5 1 = false := by decide
    rw [e] at this; exact this
  refine fn_of_W1 Tryz.func16 rfl Tryz.results16 Tryz.ntmps16 rfl ?_
  focus
    refine W_seq ?_; refine W_region rfl ?_; refine Wo rfl (opv_assign (v := .bool _) rfl) ?_; refine Wo_nil ?_; refine W_seq ?_; refine W_region rfl ?_
    refine Wo_call rfl (opc2 (a := .int _ _) (b := .int _ _) Tryz.call34 rfl rfl) (h1 _) ?_; rintro _ w1 ⟨rfl, E1⟩; have hs1 := E1.size; refine Wo rfl (opv_move (v := .bool _) rfl) ?_
    refine Wo_call rfl (opc2 (a := .int _ _) (b := .int _ _) Tryz.call34 rfl rfl) (h2 _) ?_; rintro _ w2 ⟨rfl, E2⟩; have hs2 := E2.size; refine Wo rfl (opv_not rfl) ?_; refine Wo rfl (opv_pick_t (v := .bool _) rfl rfl) ?_
    refine Wo rfl (opv_assign (v := .bool _) rfl) ?_; refine Wo_nil ?_; refine W_ret ?_; exact ⟨rfl, (E1.trans E2)⟩

end Go.Proofs.YtgphoihilheoeaaGreatDoor
namespace Go.Proofs.YtgphoihilheoeaaGreatDoor
open Go.Hs
set_option maxRecDepth 10000
set_option maxHeartbeats 4000000
set_option linter.unusedVariables false
set_option linter.unusedSimpArgs false

theorem Picture_ok {w0 : World} (w : World) {br m : Nat} (n : Int) (hr : Rdr w0 w br m) (hm : m ≤ 100000000) (hn : 0 ≤ n ∧ n ≤ 1000) :
    Does Tryz.prog 45 [.pointer (some ⟨br, 0, none⟩), .int .i64 n] w (RetDO w0 w br (m + 60) XR (fun p => p.length ≤ 5 ∧ ∀ r ∈ p, r.length ≤ 6)) := by
  refine fn_of_W1 Tryz.func45 rfl Tryz.results45 Tryz.ntmps45 rfl ?_
  have hG : w.grownBy w (some br) := grownBy_refl _ _
  have hlr := hr.lt
  have hgr := hr.ge
  have E0 := hr.old
  focus
    have szE0 := E0.size; refine W_seq ?_; refine W_region rfl ?_; refine Wo rfl (opv_assign (v := .slice _ _ _) rfl) ?_; refine Wo_nil ?_; refine W_seq ?_; refine W_region rfl ?_; refine Wo rfl (opv_move (v := .pointer _) rfl) ?_
    refine Wo_call rfl (opc2 (a := .pointer _) (b := .int _ _) Tryz.call46 rfl rfl) (pick_ok _ _ (by assumption) (by omega)) ?_; rintro _ w1 ⟨y1, rfl, E1, hr1, hy1⟩; (try dsimp only at hy1); have hlhr1 := hr1.lt; have Ehr1 := hr1.old
    have hG := grownBy_trans hG E1; have hs1 := E1.size; refine Wo rfl (opv_add rfl rfl (by omega)) ?_; refine Wo rfl (opv_assign (v := .int _ _) rfl) ?_; refine Wo_nil ?_; refine W_seq ?_; refine W_region rfl ?_
    refine Wo_lit0 (XSl 3 XInt) rfl el22 Tryz.sizeOf58 ?_; rintro b1 w2 hb1 b1lt E2 hO1; have hr1 := hr1.ext E2; have hG := grownBy_ext hG E2; have hs2 := E2.size; refine Wo rfl (opv_assign (v := .slice _ _ _) rfl) ?_; refine Wo_nil ?_
    refine W_seq ?_; refine W_region rfl ?_; refine Wo rfl (opv_move (v := .pointer _) rfl) ?_; refine Wo_call rfl (opc2 (a := .pointer _) (b := .int _ _) Tryz.call46 rfl rfl) (pick_ok _ _ (by assumption) (by omega)) ?_
    rintro _ w3 ⟨y2, rfl, E3, hr2, hy2⟩; (try dsimp only at hy2); have hlhr2 := hr2.lt; have Ehr2 := hr2.old; have hO1 := hO1.toB.grown E3 (by omega); have hG := grownBy_trans hG E3; have hs3 := E3.size
    refine Wo rfl (opv_assign (v := .int _ _) rfl) ?_; refine Wo_nil ?_; refine W_seq ?_; refine W_seq ?_; refine W_region rfl ?_; refine Wo rfl (opv_assign (v := .int _ _) rfl) ?_; refine Wo_nil ?_; refine W_block ?_
  have hy1' := hy1 (by omega)
  have hn5 : (1 + (y1 : Int)).toNat = 1 + y1 := by omega
  refine W_loop [6, 8, 9, 10, 17, 18, 19, 20, 21, 22, 23, 24, 25, 26, 27, 28, 29, 30, 31, 32, 33, 34, 35, 36, 37, 38, 39, 40, 41, 42, 43, 44, 45, 46, 47, 48, 49, 50, 51, 52, 53, 54, 55, 56, 57, 58, 59, 60, 61, 62] (fun (k, u, rows) => [(8, .int .i64 (k : Nat)), (6, u)]) (fun (k, u, rows) w' => w.grownBy w' (some br) ∧ Rdr w0 w' br (m + 2 + 6 * k) ∧ k ≤ 1 + y1 ∧ Owned w.heap.size XR w' u rows ∧ rows.length = k ∧ ∀ r ∈ rows, r.length = 1 + y1) (fun x => 1 + y1 - x.1) (0, .slice (some ⟨b1, 0, none⟩) 0 0, []) (by repeat (first | exact trivial | refine And.intro rfl ?_)) ?_ ?_
  · exact ⟨hG, hr2, Nat.zero_le _, hO1.o.mono (by omega), rfl, by simp⟩
  rintro ⟨k, u, rows⟩ ρj w4 ⟨hG4, hr4, hk, hO4, hrl, hrr⟩
  have E4 := hr4.old
  have hg4 := hG4.size
  by_cases hlt : k < 1 + y1
  · focus
      have szE4 := E4.size; have szEhr2 := Ehr2.size; have szE2 := E2.size; have szEhr1 := Ehr1.size; have szE0 := E0.size; refine W_seq ?_; refine W_seq ?_; refine W_region rfl ?_; refine Wo rfl (opv_move (v := .int _ _) rfl) ?_
      refine Wo rfl (opv_move (v := .int _ _) rfl) ?_; refine Wo rfl (opv_lss rfl rfl) ?_; refine Wo_nil ?_; refine W_cond_dec rfl (fun h1 => ?_) (fun h1 => ?_); refine W_skip ?_; refine W_seq ?_; refine W_block ?_; refine W_seq ?_
      refine W_region rfl ?_; refine Wo rfl (opv_move (v := .int _ _) rfl) ?_; refine Wo_makeI rfl el58 (int_z (by omega) rfl) (by omega) ?_; rintro b2 w5 hb2 b2lt E5 hO2; have hG4 := grownBy_ext hG4 E5; have hr4 := hr4.ext E5
      have hs4 := E5.size; refine Wo rfl (opv_assign (v := .slice _ _ _) rfl) ?_; refine Wo_nil ?_; refine W_seq ?_; refine W_seq ?_; refine W_region rfl ?_; refine Wo rfl (opv_assign (v := .int _ _) rfl) ?_; refine Wo_nil ?_
      refine W_block ?_; rotate_left; (exfalso; omega)
    refine W_loop [10, 24, 25, 26, 27, 28, 29, 30, 31, 32, 33, 34, 35, 36, 37, 38, 39, 40, 41, 42, 43, 44, 45] (fun (j, row) => [(10, .int .i64 (j : Nat))]) (fun (j, row) w' => w.grownBy w' (some br) ∧ Rdr w0 w' br (m + 2 + 6 * k + j) ∧ j ≤ 1 + y1 ∧ OwnedB w.heap.size w4.heap.size XR w' u rows ∧ Owned w4.heap.size XI w' (.slice (some ⟨b2, 0, none⟩) (1 + (y1 : Int)).toNat (1 + (y1 : Int)).toNat) row ∧ row.length = 1 + y1) (fun x => 1 + y1 - x.1) (0, List.replicate (1 + (y1 : Int)).toNat 0) (by repeat (first | exact trivial | refine And.intro rfl ?_)) ?_ ?_
    · exact ⟨hG4, hr4, Nat.zero_le _, hO4.toB.ext E5, hO2, by simp; omega⟩
    rintro ⟨j, row⟩ ρi w6 ⟨hG6, hr6, hj, hO6, hR6, hrow⟩
    have E6 := hr6.old
    have hg6 := hG6.size
    have hb6 := hR6.lt_own (k := b2) rfl
    have hs6 : w4.heap.size ≤ w6.heap.size := by omega
    by_cases hjl : j < 1 + y1
    · focus
        have szE6 := E6.size; have szE5 := E5.size; have szE4 := E4.size; have szEhr2 := Ehr2.size; have szE2 := E2.size; have szEhr1 := Ehr1.size; have szE0 := E0.size; refine W_seq ?_; refine W_seq ?_; refine W_region rfl ?_
        refine Wo rfl (opv_move (v := .int _ _) rfl) ?_; refine Wo rfl (opv_move (v := .int _ _) rfl) ?_; refine Wo rfl (opv_lss rfl rfl) ?_; refine Wo_nil ?_; refine W_cond_dec rfl (fun h2 => ?_) (fun h2 => ?_); refine W_skip ?_
        refine W_seq ?_; refine W_block ?_; refine W_seq ?_; refine W_region rfl ?_; refine Wo rfl (opv_move (v := .int _ _) rfl) ?_; refine Wo rfl (opv_eql rfl rfl) ?_
        refine Wo_split_dec rfl (opv_move (v := .bool _) rfl) (fun h3 => ?_) (fun h3 => ?_); refine Wo rfl (opv_move (v := .int _ _) rfl) ?_; refine Wo rfl (opv_move (v := .int _ _) rfl) ?_; refine Wo rfl (opv_gtr rfl rfl) ?_
        refine Wo rfl (opv_pick_t (v := .bool _) rfl rfl) ?_; refine Wo_split_dec rfl (opv_move (v := .bool _) rfl) (fun h4 => ?_) (fun h4 => ?_); refine Wo_skip rfl ?_; refine Wo_skip rfl ?_
        refine Wo rfl (opv_pick_t (v := .bool _) rfl rfl) ?_; refine Wo_nil ?_; refine W_cond_true rfl ?_; refine W_region rfl ?_; refine Wo rfl (opv_move (v := .slice _ _ _) rfl) ?_; refine Wo rfl (opv_move (v := .int _ _) rfl) ?_
        refine Wo rfl (opv_move (v := .pointer _) rfl) ?_; refine Wo_call rfl (opc2 (a := .pointer _) (b := .int _ _) Tryz.call46 rfl rfl) (pick_ok _ _ (by assumption) (by omega)) ?_; rintro _ w7 ⟨y3, rfl, E7, hr3, hy3⟩
        (try dsimp only at hy3); have hlhr3 := hr3.lt; have Ehr3 := hr3.old; have hG6 := grownBy_trans hG6 E7; have hO6 := hO6.grown E7 (by omega); have hR6 := hR6.toB.grown E7 (by omega); have hs5 := E7.size
        refine Wo rfl (opv_quo rfl rfl (by omega)) ?_; refine Wo rfl (opv_indexAddr Tryz.underlying58 Tryz.sizeOf3 rfl rfl (by omega)) ?_
        refine Wo_set rfl Tryz.sizeOf3 rfl rfl hR6 (by first | omega | (simp <;> omega)) Owned.int (Nat.le_refl _) (by omega) ?_; rintro w8 hR6 On1 K1 hz1; have E8 := On1.ext1 Ehr3 (by omega); have hr3 := hr3.wrote E8 (K1 _ (by omega)) hz1
        have hG6 := grownBy_wrote hG6 Ehr3 E8 K1 hz1 (by first | exact .inr rfl | omega); have hO6 := hO6.wrote K1 (by omega); have hs7 := On1.size; refine Wo_nil ?_; refine W_region rfl ?_; refine Wo rfl (opv_move (v := .int _ _) rfl) ?_
        refine Wo rfl (opv_add rfl rfl (by omega)) ?_; refine Wo rfl (opv_assign (v := .int _ _) rfl) ?_; refine Wo_nil ?_; rotate_left; refine Wo rfl (opv_move (v := .int _ _) rfl) ?_; refine Wo rfl (opv_gtr rfl rfl) ?_
        refine Wo rfl (opv_pick_f (v := .bool _) rfl rfl) ?_; refine Wo_nil ?_; refine W_cond_dec rfl (fun h5 => ?_) (fun h5 => ?_); (exfalso; omega); refine W_skip ?_; refine W_region rfl ?_; refine Wo rfl (opv_move (v := .int _ _) rfl) ?_
        refine Wo rfl (opv_add rfl rfl (by omega)) ?_; refine Wo rfl (opv_assign (v := .int _ _) rfl) ?_; refine Wo_nil ?_; rotate_left; refine Wo_skip rfl ?_; refine Wo_skip rfl ?_; refine Wo_skip rfl ?_
        refine Wo rfl (opv_pick_f (v := .bool _) rfl rfl) ?_; refine Wo rfl (opv_move (v := .bool _) rfl) ?_; refine Wo rfl (opv_move (v := .int _ _) rfl) ?_; refine Wo rfl (opv_gtr rfl rfl) ?_
        refine Wo rfl (opv_pick_f (v := .bool _) rfl rfl) ?_; refine Wo_nil ?_; refine W_cond_dec rfl (fun h4 => ?_) (fun h4 => ?_); refine W_region rfl ?_; refine Wo rfl (opv_move (v := .slice _ _ _) rfl) ?_
        refine Wo rfl (opv_move (v := .int _ _) rfl) ?_; refine Wo rfl (opv_move (v := .pointer _) rfl) ?_; refine Wo_call rfl (opc2 (a := .pointer _) (b := .int _ _) Tryz.call46 rfl rfl) (pick_ok _ _ (by assumption) (by omega)) ?_
        rintro _ w7 ⟨y3, rfl, E7, hr3, hy3⟩; (try dsimp only at hy3); have hlhr3 := hr3.lt; have Ehr3 := hr3.old; have hG6 := grownBy_trans hG6 E7; have hO6 := hO6.grown E7 (by omega); have hR6 := hR6.toB.grown E7 (by omega)
        have hs5 := E7.size; refine Wo rfl (opv_quo rfl rfl (by omega)) ?_; refine Wo rfl (opv_indexAddr Tryz.underlying58 Tryz.sizeOf3 rfl rfl (by omega)) ?_
        refine Wo_set rfl Tryz.sizeOf3 rfl rfl hR6 (by first | omega | (simp <;> omega)) Owned.int (Nat.le_refl _) (by omega) ?_; rintro w8 hR6 On1 K1 hz1; have E8 := On1.ext1 Ehr3 (by omega); have hr3 := hr3.wrote E8 (K1 _ (by omega)) hz1
        have hG6 := grownBy_wrote hG6 Ehr3 E8 K1 hz1 (by first | exact .inr rfl | omega); have hO6 := hO6.wrote K1 (by omega); have hs7 := On1.size; refine Wo_nil ?_; refine W_region rfl ?_; refine Wo rfl (opv_move (v := .int _ _) rfl) ?_
        refine Wo rfl (opv_add rfl rfl (by omega)) ?_; refine Wo rfl (opv_assign (v := .int _ _) rfl) ?_; refine Wo_nil ?_; rotate_left; (exfalso; omega); (exfalso; omega)
      · refine ⟨((j + 1, row.set j ((y3 : Int) / 2))), by repeat (first | exact trivial | refine And.intro rfl ?_), by repeat (first | with_reducible exact Same.refl | refine Same.upd rfl ?_ | refine Same.upds rfl ?_ | refine Same.mix rfl ?_), ?_, ?_⟩
        · exact ⟨by assumption, Rdr.le (by assumption) (by omega), by omega, by assumption, by assumption, by simp [hrow]⟩
        · simp only; omega
      · refine ⟨((j + 1, row)), by repeat (first | exact trivial | refine And.intro rfl ?_), by repeat (first | with_reducible exact Same.refl | refine Same.upd rfl ?_ | refine Same.upds rfl ?_ | refine Same.mix rfl ?_), ?_, ?_⟩
        · exact ⟨by assumption, Rdr.le (by assumption) (by omega), by omega, by assumption, by assumption, hrow⟩
        · simp only; omega
      · refine ⟨((j + 1, row.set j ((y3 : Int) / 2))), by repeat (first | exact trivial | refine And.intro rfl ?_), by repeat (first | with_reducible exact Same.refl | refine Same.upd rfl ?_ | refine Same.upds rfl ?_ | refine Same.mix rfl ?_), ?_, ?_⟩
        · exact ⟨by assumption, Rdr.le (by assumption) (by omega), by omega, by assumption, by assumption, by simp [hrow]⟩
        · simp only; omega
    · obtain rfl : j = 1 + y1 := by omega
      have hrs : ∀ (rw' : List Int), rw'.length = 1 + y1 → ∀ r ∈ rows ++ [rw'], r.length = 1 + y1 := by
        intro rw' h9 r hr9
        rcases List.mem_append.1 hr9 with h | h
        · exact hrr r h
        · rw [List.mem_singleton.1 h]; exact h9
      focus
        have szE6 := E6.size; have szE5 := E5.size; have szE4 := E4.size; have szEhr2 := Ehr2.size; have szE2 := E2.size; have szEhr1 := Ehr1.size; have szE0 := E0.size; refine W_seq ?_; refine W_seq ?_; refine W_region rfl ?_
        refine Wo rfl (opv_move (v := .int _ _) rfl) ?_; refine Wo rfl (opv_move (v := .int _ _) rfl) ?_; refine Wo rfl (opv_lss rfl rfl) ?_; refine Wo_nil ?_; refine W_cond_dec rfl (fun h2 => ?_) (fun h2 => ?_); (exfalso; omega)
        refine W_exit ?_; refine exitX_same ?_; refine W_seq ?_; refine W_seq ?_; refine W_region rfl ?_; refine Wo rfl (opv_move (v := .int _ _) rfl) ?_; refine Wo rfl (opv_add rfl rfl (by omega)) ?_
        refine Wo rfl (opv_move (v := .int _ _) rfl) ?_; refine Wo rfl (opv_lss rfl rfl) ?_; refine Wo_split_dec rfl (opv_move (v := .bool _) rfl) (fun h3 => ?_) (fun h3 => ?_); refine Wo rfl (opv_move (v := .pointer _) rfl) ?_
        refine Wo_call rfl (opc2 (a := .pointer _) (b := .int _ _) Tryz.call46 rfl rfl) (pick_ok _ _ (by assumption) (by omega)) ?_; rintro _ w7 ⟨y3, rfl, E7, hr3, hy3⟩; (try dsimp only at hy3); have hlhr3 := hr3.lt; have Ehr3 := hr3.old
        have hG6 := grownBy_trans hG6 E7; have hO6 := hO6.grown E7 (by omega); have hR6 := hR6.toB.grown E7 (by omega); have hs5 := E7.size; refine Wo rfl (opv_gtr rfl rfl) ?_; refine Wo rfl (opv_pick_t (v := .bool _) rfl rfl) ?_
        refine Wo_nil ?_; refine W_cond_dec rfl (fun h4 => ?_) (fun h4 => ?_); refine W_region rfl ?_; refine Wo rfl (opv_move (v := .slice _ _ _) rfl) ?_; refine Wo rfl (opv_move (v := .int _ _) rfl) ?_
        refine Wo rfl (opv_add rfl rfl (by omega)) ?_; refine Wo rfl (opv_indexAddr_z Tryz.underlying58 Tryz.sizeOf3 rfl rfl (by omega)) ?_
        refine Wo_set rfl Tryz.sizeOf3 rfl rfl hR6 (by first | omega | (simp <;> omega)) Owned.int (Nat.le_refl _) (by omega) ?_; rintro w8 hR6 On1 K1 hz1; have E8 := On1.ext1 Ehr3 (by omega); have hr3 := hr3.wrote E8 (K1 _ (by omega)) hz1
        have hG6 := grownBy_wrote hG6 Ehr3 E8 K1 hz1 (by first | exact .inr rfl | omega); have hO6 := hO6.wrote K1 (by omega); have hs7 := On1.size; refine Wo_nil ?_; refine W_region rfl ?_; refine Wo rfl (opv_move (v := u) rfl) ?_
        refine Wo rfl (opv_move (v := .slice _ _ _) rfl) ?_; refine Wo_buildSlice (ps := [(0, .slice _ _ _)]) (cs := [_]) rfl Tryz.underlying22 Tryz.sizeOf58 Tryz.zeroValue58 rfl rfl rfl rfl ?_; rintro b3 w9 hb3 E9 hB1; have hlb3 := hB1.lt
        have hr3 := hr3.ext E9; have hG6 := grownBy_ext hG6 E9; have hs8 := E9.size
        refine Wo_app1 rfl el22 rfl rfl hB1 (hO6.ext E9) (hR6.toB.ext E9).o (by omega) (by first | omega | (simp <;> omega)) (by omega) (by omega) (E8.trans E9) (by omega) ?_; have hT1 := (hO6.ext E9); rintro v1 w10 hO6 E10 M1
        have hR6 := (hR6.toB.ext E9).moves M1 hT1 (by omega); have hB1 := hB1.moves M1 hT1 (by omega); have hr3 := hr3.moves E10 M1 hT1 (by omega); have hG6 := grownBy_moves hG6 M1 hT1 (by omega); have hs9 := E10.size
        refine Wo rfl (opv_assign (v := v1) rfl) ?_; refine Wo_nil ?_; refine W_region rfl ?_; refine Wo rfl (opv_move (v := .int _ _) rfl) ?_; refine Wo rfl (opv_add rfl rfl (by omega)) ?_; refine Wo rfl (opv_assign (v := .int _ _) rfl) ?_
        refine Wo_nil ?_; rotate_left; refine W_skip ?_; refine W_region rfl ?_; refine Wo rfl (opv_move (v := u) rfl) ?_; refine Wo rfl (opv_move (v := .slice _ _ _) rfl) ?_
        refine Wo_buildSlice (ps := [(0, .slice _ _ _)]) (cs := [_]) rfl Tryz.underlying22 Tryz.sizeOf58 Tryz.zeroValue58 rfl rfl rfl rfl ?_; rintro b3 w8 hb3 E8 hB1; have hlb3 := hB1.lt; have hr3 := hr3.ext E8
        have hG6 := grownBy_ext hG6 E8; have hs7 := E8.size; refine Wo_app1 rfl el22 rfl rfl hB1 (hO6.ext E8) (hR6.ext E8).o (by omega) (by first | omega | (simp <;> omega)) (by omega) (by omega) (Ehr3.trans E8) (by omega) ?_
        have hT1 := (hO6.ext E8); rintro v1 w9 hO6 E9 M1; have hR6 := (hR6.ext E8).moves M1 hT1 (by omega); have hB1 := hB1.moves M1 hT1 (by omega); have hr3 := hr3.moves E9 M1 hT1 (by omega); have hG6 := grownBy_moves hG6 M1 hT1 (by omega)
        have hs8 := E9.size; refine Wo rfl (opv_assign (v := v1) rfl) ?_; refine Wo_nil ?_; refine W_region rfl ?_; refine Wo rfl (opv_move (v := .int _ _) rfl) ?_; refine Wo rfl (opv_add rfl rfl (by omega)) ?_
        refine Wo rfl (opv_assign (v := .int _ _) rfl) ?_; refine Wo_nil ?_; rotate_left; refine Wo_skip rfl ?_; refine Wo_skip rfl ?_; refine Wo_skip rfl ?_; refine Wo rfl (opv_pick_f (v := .bool _) rfl rfl) ?_; refine Wo_nil ?_
        refine W_cond_false rfl ?_; refine W_skip ?_; refine W_region rfl ?_; refine Wo rfl (opv_move (v := u) rfl) ?_; refine Wo rfl (opv_move (v := .slice _ _ _) rfl) ?_
        refine Wo_buildSlice (ps := [(0, .slice _ _ _)]) (cs := [_]) rfl Tryz.underlying22 Tryz.sizeOf58 Tryz.zeroValue58 rfl rfl rfl rfl ?_; rintro b3 w7 hb3 E7 hB1; have hlb3 := hB1.lt; have hG6 := grownBy_ext hG6 E7
        have hr6 := hr6.ext E7; have hs5 := E7.size; refine Wo_app1 rfl el22 rfl rfl hB1 (hO6.ext E7) (hR6.toB.ext E7).o (by omega) (by first | omega | (simp <;> omega)) (by omega) (by omega) (E6.trans E7) (by omega) ?_
        have hT1 := (hO6.ext E7); rintro v1 w8 hO6 E8 M1; have hR6 := (hR6.toB.ext E7).moves M1 hT1 (by omega); have hB1 := hB1.moves M1 hT1 (by omega); have hG6 := grownBy_moves hG6 M1 hT1 (by omega)
        have hr6 := hr6.moves E8 M1 hT1 (by omega); have hs7 := E8.size; refine Wo rfl (opv_assign (v := v1) rfl) ?_; refine Wo_nil ?_; refine W_region rfl ?_; refine Wo rfl (opv_move (v := .int _ _) rfl) ?_
        refine Wo rfl (opv_add rfl rfl (by omega)) ?_; refine Wo rfl (opv_assign (v := .int _ _) rfl) ?_; refine Wo_nil ?_; rotate_left
      · refine ⟨((k + 1, v1, rows ++ [row.set ((k : Int) + 1).toNat 1])), by repeat (first | exact trivial | refine And.intro rfl ?_), by repeat (first | with_reducible exact Same.refl | refine Same.upd rfl ?_ | refine Same.upds rfl ?_ | refine Same.mix rfl ?_), ?_, ?_⟩
        · exact ⟨by assumption, Rdr.le (by assumption) (by omega), by omega, by assumption, by simp [hrl], hrs _ (by simp [hrow])⟩
        · simp only; omega
      · refine ⟨((k + 1, v1, rows ++ [row])), by repeat (first | exact trivial | refine And.intro rfl ?_), by repeat (first | with_reducible exact Same.refl | refine Same.upd rfl ?_ | refine Same.upds rfl ?_ | refine Same.mix rfl ?_), ?_, ?_⟩
        · exact ⟨by assumption, Rdr.le (by assumption) (by omega), by omega, by assumption, by simp [hrl], hrs _ hrow⟩
        · simp only; omega
      · refine ⟨((k + 1, v1, rows ++ [row])), by repeat (first | exact trivial | refine And.intro rfl ?_), by repeat (first | with_reducible exact Same.refl | refine Same.upd rfl ?_ | refine Same.upds rfl ?_ | refine Same.mix rfl ?_), ?_, ?_⟩
        · exact ⟨by assumption, Rdr.le (by assumption) (by omega), by omega, by assumption, by simp [hrl], hrs _ hrow⟩
        · simp only; omega
  · obtain rfl : k = 1 + y1 := by omega
    obtain ⟨ub, uc, rfl, _⟩ := hO4.lit (by omega)
    have hub := hO4.lt_own (k := ub) rfl
    have hrow := hrr rows[0] (List.getElem_mem (by omega))
    obtain ⟨brw, crw, hRow, hbw1, hbw2⟩ := hO4.rowAt (i := 0) (by omega) (by omega)
    focus
      have szE4 := E4.size; have szEhr2 := Ehr2.size; have szE2 := E2.size; have szEhr1 := Ehr1.size; have szE0 := E0.size; refine W_seq ?_; refine W_seq ?_; refine W_region rfl ?_; refine Wo rfl (opv_move (v := .int _ _) rfl) ?_
      refine Wo rfl (opv_move (v := .int _ _) rfl) ?_; refine Wo rfl (opv_lss rfl rfl) ?_; refine Wo_nil ?_; refine W_cond_dec rfl (fun h1 => ?_) (fun h1 => ?_); (exfalso; omega); refine W_exit ?_; refine exitX_same ?_; refine W_seq ?_
      refine W_seq ?_; refine W_region rfl ?_; refine Wo rfl (opv_move (v := .pointer _) rfl) ?_; refine Wo rfl (opv_move (v := .int _ _) rfl) ?_
      refine Wo_call rfl (opc2 (a := .pointer _) (b := .int _ _) Tryz.call64 rfl rfl) (odd_ok _ _ (by assumption) (by omega) (by omega)) ?_; rintro _ w5 ⟨y3, rfl, E5, hr3, hy3⟩; (try dsimp only at hy3); have hlhr3 := hr3.lt
      have Ehr3 := hr3.old; have hG4 := grownBy_trans hG4 E5; have hO4 := hO4.toB.grown E5 (by omega); have hRow := hRow.grown E5 (by simp [Value.ownBlock]; omega); have hs4 := E5.size; refine Wo_nil ?_
      refine W_cond rfl (fun h2 => ?_) (fun h2 => ?_); refine W_seq ?_; refine W_region rfl ?_; refine Wo rfl (opv_move (v := .pointer _) rfl) ?_
      refine Wo_call rfl (opc2 (a := .pointer _) (b := .int _ _) Tryz.call46 rfl rfl) (pick_ok _ _ (by assumption) (by omega)) ?_; rintro _ w6 ⟨y4, rfl, E6, hr5, hy4⟩; (try dsimp only at hy4); have hlhr5 := hr5.lt; have Ehr5 := hr5.old
      have hG4 := grownBy_trans hG4 E6; have hO4 := hO4.grown E6 (by omega); have hRow := hRow.grown E6 (by simp [Value.ownBlock]; omega); have hs5 := E6.size; refine Wo_nil ?_; refine W_block ?_; refine W_seq ?_; refine W_region rfl ?_
      refine Wo rfl (opv_eql rfl rfl) ?_; refine Wo rfl (opv_assign (v := .bool _) rfl) ?_; refine Wo_nil ?_; refine W_cond_dec rfl (fun h3 => ?_) (fun h3 => ?_); refine W_seq ?_; refine W_region rfl ?_
      refine Wo_lit0 (XSl 3 XInt) rfl el22 Tryz.sizeOf58 ?_; rintro b2 w7 hb2 b2lt E7 hO2; have hr5 := hr5.ext E7; have hG4 := grownBy_ext hG4 E7; have hs6 := E7.size; refine Wo rfl (opv_assign (v := .slice _ _ _) rfl) ?_
      refine Wo_nil ?_; refine W_ret ?_; refine at_ret (v := .slice _ _ _) rfl ?_; rotate_left; refine W_seq ?_; refine W_region rfl ?_; refine Wo rfl (opv_eql rfl rfl) ?_; refine Wo rfl (opv_assign (v := .bool _) rfl) ?_
      refine Wo_nil ?_; refine W_cond_dec rfl (fun h4 => ?_) (fun h4 => ?_); refine W_region rfl ?_; refine Wo rfl (opv_move (v := .slice _ _ _) rfl) ?_
      refine Wo_rowAt Tryz.underlying22 Tryz.sizeOf58 Tryz.isAgg58 rfl (fun _ => rfl) rfl ⟨_, _, rfl⟩ rfl hRow (by first | omega | (simp <;> omega)) ?_; rintro _
      refine Wo rfl (opv_indexAddr (k := 0) Tryz.underlying58 Tryz.sizeOf3 rfl rfl (by omega)) ?_; refine Wo_gset rfl Tryz.sizeOf3 rfl rfl hO4 hRow (by first | omega | (simp <;> omega)) (by first | omega | (simp <;> omega)) ?_
      rintro w7 hO4 hRow On1 K1 hz1; have E7 := On1.ext1 Ehr5 (by omega); have hr5 := hr5.wrote E7 (K1 _ (by omega)) hz1; have hG4 := grownBy_wrote hG4 Ehr5 E7 K1 hz1 (by first | exact .inr rfl | omega); have hs6 := On1.size
      refine Wo_nil ?_; refine W_seq ?_; refine W_region rfl ?_; refine Wo rfl (opv_move (v := .slice _ _ _) rfl) ?_; refine Wo rfl (opv_assign (v := .slice _ _ _) rfl) ?_; refine Wo_nil ?_; refine W_ret ?_
      refine at_ret (v := .slice _ _ _) rfl ?_; rotate_left; refine W_region rfl ?_; refine Wo rfl (opv_move (v := .slice _ _ _) rfl) ?_; refine Wo rfl (opv_move (v := .slice _ _ _) rfl) ?_
      refine Wo_rowAt Tryz.underlying22 Tryz.sizeOf58 Tryz.isAgg58 rfl (fun _ => rfl) rfl ⟨_, _, rfl⟩ rfl hRow (by first | omega | (simp <;> omega)) ?_; rintro _
      refine Wo_buildSlice (ps := [(0, .int _ _)]) (cs := [_]) rfl Tryz.underlying58 Tryz.sizeOf3 Tryz.zeroValue3 rfl rfl rfl rfl ?_; rintro b2 w7 hb2 E7 hB1; have hlb2 := hB1.lt; have hr5 := hr5.ext E7; have hG4 := grownBy_ext hG4 E7
      have hs6 := E7.size; rotate_left; refine W_skip ?_; refine W_seq ?_; refine W_region rfl ?_; refine Wo rfl (opv_move (v := .slice _ _ _) rfl) ?_; refine Wo rfl (opv_assign (v := .slice _ _ _) rfl) ?_; refine Wo_nil ?_
      refine W_ret ?_; refine at_ret (v := .slice _ _ _) rfl ?_; rotate_left
    · exact ⟨by assumption, Rdr.le (by assumption) (by omega), [], Owned.mono (by assumption) (by omega), by simp⟩
    · refine ⟨by assumption, Rdr.le (by assumption) (by omega), _, by assumption, by simp; omega, fun r hr9 => ?_⟩
      rcases List.mem_or_eq_of_mem_set hr9 with h | h
      · have := hrr r h; omega
      · rw [h]; simp; omega
    · have hO7 := hO4.ext (show Ext w6 w7 by assumption)
      have hR7 := hRow.ext (show Ext w6 w7 by assumption)
      obtain ⟨hme, hRO⟩ := hO7.rowOwn hR7 (by omega)
      focus
        have szE7 := E7.size; have szEhr5 := Ehr5.size; have szEhr3 := Ehr3.size; have szE4 := E4.size; have szEhr2 := Ehr2.size; have szE2 := E2.size; have szEhr1 := Ehr1.size; have szE0 := E0.size
        refine Wo_app1 rfl el58 rfl rfl hB1 hRO Owned.int (Nat.le_refl _) (by first | omega | (simp <;> omega)) (by omega) (by omega) (Ehr5.trans E7) (by omega) ?_; have hT1 := hRO; rintro v1 w8 hRO E8 M1
        have hB1 := hB1.moves M1 hT1 (by omega); have hr5 := hr5.moves E8 M1 hT1 (by omega); have hG4 := grownBy_moves hG4 M1 hT1 (by omega); have hs7 := E8.size
        refine Wo rfl (opv_indexAddr (k := 0) Tryz.underlying22 Tryz.sizeOf58 rfl rfl (by omega)) ?_
      obtain ⟨q1, q2, ⟨q3, q4⟩, q5⟩ := hO7.rowBack hR7 (by omega) (show Moves w7 (.slice (some ⟨brw, 0, none⟩) rows[0].length crw) w8 v1 from M1) hRO (by omega)
      refine Wo_store (w' := w8.setCell ⟨ub, 0, none⟩ v1) rfl (ops_store Tryz.sizeOf58 rfl rfl q2 q4 q5) ?_
      have E9 : Ext w0 (w8.setCell ⟨ub, 0, none⟩ v1) := E8.setCell (by simp only; omega) v1
      have hr9 := hr5.wrote E9 (Hs.heap_setCell_other v1 (show br ≠ ub by omega)) (size_setCell _ _)
      have hG9 := grownBy_wrote (b := ub) hG4 E8 E9 (fun k hk => Hs.heap_setCell_other v1 hk) (size_setCell _ _) (.inl hub.1)
      generalize w8.setCell ⟨ub, 0, none⟩ v1 = w9 at q1 hr9 hG9 E9
      focus
        have szE9 := E9.size; have szE8 := E8.size; have szE7 := E7.size; have szEhr5 := Ehr5.size; have szEhr3 := Ehr3.size; have szE4 := E4.size; have szEhr2 := Ehr2.size; have szE2 := E2.size; have szEhr1 := Ehr1.size
        have szE0 := E0.size; refine Wo_nil ?_; refine W_seq ?_; refine W_region rfl ?_; refine Wo rfl (opv_move (v := .slice _ _ _) rfl) ?_; refine Wo rfl (opv_assign (v := .slice _ _ _) rfl) ?_; refine Wo_nil ?_; refine W_ret ?_
        refine at_ret (v := .slice _ _ _) rfl ?_
      refine ⟨hG9, hr9.le (by omega), _, q1, by simp; omega, fun r hr' => ?_⟩
      rcases List.mem_or_eq_of_mem_set hr' with h | h
      · have := hrr r h; omega
      · rw [h]; simp; omega
    · refine ⟨by assumption, Rdr.le (by assumption) (by omega), _, OwnedB.o (by assumption), by omega, fun r hr9 => ?_⟩
      have := hrr r hr9; omega

end Go.Proofs.YtgphoihilheoeaaGreatDoor
namespace Go.Proofs.YtgphoihilheoeaaGreatDoor
open Go.Hs
set_option maxRecDepth 10000
set_option maxHeartbeats 4000000
set_option linter.unusedVariables false
set_option linter.unusedSimpArgs false

end Go.Proofs.YtgphoihilheoeaaGreatDoor
namespace Go.Proofs.YtgphoihilheoeaaGreatDoor
open Go.Hs
set_option maxRecDepth 10000
set_option maxHeartbeats 4000000
set_option linter.unusedVariables false
set_option linter.unusedSimpArgs false

end Go.Proofs.YtgphoihilheoeaaGreatDoor
namespace Go.Proofs.YtgphoihilheoeaaGreatDoor
open Go.Hs
set_option maxRecDepth 10000
set_option maxHeartbeats 4000000
set_option linter.unusedVariables false
set_option linter.unusedSimpArgs false

theorem shift_row {n : Nat} {r : List Int} {o : Nat} (j : Nat) (hj : j < r.length) (hn : o + r.length ≤ n) : (List.replicate o 0 ++ r.take j ++ List.replicate (n - o - j) 0).set (o + j) r[j] = List.replicate o 0 ++ r.take (j + 1) ++ List.replicate (n - o - (j + 1)) 0 := by
  rw [List.append_assoc, List.set_append_right _ _ (by simp), List.append_assoc]
  congr 1
  rw [List.length_replicate, Nat.add_sub_cancel_left, List.set_append_right _ _ (by simp; omega)]
  rw [show j - (r.take j).length = 0 by simp; omega, show n - o - j = (n - o - (j + 1)) + 1 by omega, List.replicate_succ, List.set_cons_zero, take_snoc _ _ hj, List.append_assoc]
  rfl
theorem l6Put_ok (w : World) (v u vl vr : Value) (p q : List (List Int)) (L R : List Nat) (h : ESl Ints w v p) (h' : ESl Ints w u q) (hL : Ints w vl (ints L)) (hR : Ints w vr (ints R)) (hp : Pic p) (hq : Pic q ∨ q = [])
    (hl : ∀ x ∈ L, x < p.length) (hr : ∀ x ∈ R, x < q.length) (hll : L.length ≤ 1000) (hrl : R.length ≤ 1000) :
    Does Tryz.prog 108 [v, u, vl, vr] w (RetO w XR (put (bes p q) (L ++ R.map (p.length + ·)))) := by
  have hp5 := hp.2.1
  have hq5 : q.length ≤ 5 := by rcases hq with hq | rfl; exact hq.2.1; simp
  have hqrow : ∀ (k : Nat) (hk : k < q.length), q[k].length = q.length := fun k hk => by
    rcases hq with hq | rfl
    · exact hq.row hk
    · cases hk
  have hle := h.le
  have hle' := h'.le
  have hil := ints_len L
  have hir := ints_len R
  obtain ⟨g, hg⟩ : ∃ g, g = p.length + q.length := ⟨_, rfl⟩
  refine fn_of_W1 Tryz.func108 rfl Tryz.results108 Tryz.ntmps108 rfl ?_
  have keepR : True := trivial
  focus
    refine W_seq ?_; refine W_region rfl ?_; refine Wo rfl (opv_assign (v := .slice _ _ _) rfl) ?_; refine Wo_nil ?_; refine W_seq ?_; refine W_region rfl ?_; refine Wo rfl (opv_move (v := v) rfl) ?_
    refine Wo rfl (opv_len Tryz.underlying22 rfl h) ?_; refine Wo rfl (opv_add rfl rfl (by omega)) ?_; refine Wo rfl (opv_move (v := u) rfl) ?_; refine Wo rfl (opv_len Tryz.underlying22 rfl h') ?_
    refine Wo rfl (opv_add rfl rfl (by omega)) ?_; refine Wo rfl (opv_assign (v := .int _ _) rfl) ?_; refine Wo_nil ?_; refine W_seq ?_; refine W_region rfl ?_; refine Wo rfl (opv_move (v := .int _ _) rfl) ?_
    refine Wo_makeI rfl el58 (int_z (by omega) rfl) (by omega) ?_; rintro b1 w1 hb1 b1lt E1 hO1; have hs1 := E1.size
    refine Wo_buildSliceH (ps := [(0, .slice _ _ _)]) (cs := [_]) rfl Tryz.underlying22 Tryz.sizeOf58 Tryz.zeroValue58 rfl rfl rfl rfl ?_; rintro b2 w2 hb2 E2 hB1 hHb2; have hlb2 := hB1.lt; have hs2 := E2.size
    refine Wo rfl (opv_assign (v := .slice _ _ _) rfl) ?_; refine Wo_nil ?_; refine W_seq ?_; refine W_seq ?_; refine W_region rfl ?_; refine Wo rfl (opv_assign (v := .int _ _) rfl) ?_; refine Wo_nil ?_; refine W_block ?_
  clear keepR
  obtain ⟨N, hN⟩ : ∃ N, N = (1 + (p.length : Int) + (q.length : Int)).toNat := ⟨_, rfl⟩
  have hNg : N = g + 1 := by omega
  rw [← hN] at hO1 hHb2
  have hO0 : Owned w.heap.size XR w2 (.slice (some ⟨b2, 0, none⟩) 1 1) [ro g []] := by
    rw [ro_nil, ← hNg]
    exact Owned.single (hO1.toB.ext E2) hHb2 (by omega) (by omega)
  clear hO1 hHb2 hB1
  have hrl0 : ∀ ms, (ro g ms).length = g + 1 := fun ms => ro_len
  refine W_loop [11, 28, 29, 30, 31, 32, 33, 34, 35, 36, 37, 38, 39, 40, 41, 42] (fun ((k, rows) : Nat × List (List Int)) => [(11, .int .i64 (k : Nat))]) (fun (k, rows) w' => Ext w w' ∧ k ≤ L.length ∧ Owned w.heap.size XR w' (.slice (some ⟨b2, 0, none⟩) 1 1) rows ∧ rows = [ro g (L.take k)]) (fun x => L.length - x.1) (0, [ro g []]) (by repeat (first | exact trivial | refine And.intro rfl ?_)) ?_ ?_
  · exact ⟨by exact (E1.trans E2), Nat.zero_le _, hO0, rfl⟩
  clear hO0
  rintro ⟨k, rows⟩ ρj w3 ⟨E3, hk, hO0, hrw⟩
  have hlr : rows.length = 1 := by rw [hrw]; rfl
  have hr0 : rows[0]'(by omega) = ro g (L.take k) := by simp only [hrw, List.getElem_cons_zero]
  have hr0l : (rows[0]'(by omega)).length = g + 1 := by rw [hr0]; exact hrl0 _
  obtain ⟨br, cr, hRw, hbr1, hbr2⟩ := hO0.rowAt (i := 0) (by omega) (by omega)
  by_cases hlt : k < L.length
  · have hgk : (ints L)[k]'(by omega) = (L[k] : Int) := ints_get hlt
    have hLk := hl L[k] (List.getElem_mem hlt)
    have hcell := rowAt_cell hRw
    have heldS : w = w := rfl
    focus
      have szE3 := E3.size; have szE2 := E2.size; have szE1 := E1.size; refine W_seq ?_; refine W_seq ?_; refine W_region rfl ?_; refine Wo rfl (opv_move (v := .int _ _) rfl) ?_; refine Wo rfl (opv_move (v := vl) rfl) ?_
      refine Wo rfl (opv_len Tryz.underlying58 rfl hL) ?_; refine Wo rfl (opv_lss rfl rfl) ?_; refine Wo_nil ?_; refine W_cond_dec rfl (fun h1 => ?_) (fun h1 => ?_); refine W_skip ?_; refine W_seq ?_; refine W_block ?_
      refine W_held (fun w' => Ext w w') mixed rfl (by kernel_rfl) ?_; intro w4 E4 K1 hz1; have hs3 := E4.size; refine Wh_take 0 rfl (by kernel_rfl) (by kernel_rfl) rfl (fun _ _ => opv_move (v := .slice _ _ _) rfl) (E3.trans E4) ?_
      refine Wh_take 1 rfl (by kernel_rfl) (by kernel_rfl) rfl (fun _ _ => opv_indexAddr (k := 0) Tryz.underlying22 Tryz.sizeOf58 rfl rfl (by omega)) (E3.trans E4) ?_
      refine Wh_take 3 rfl (by kernel_rfl) (by kernel_rfl) rfl (fun _ _ => opv_move (v := vl) rfl) (E3.trans E4) ?_; refine Wh_take 4 rfl (by kernel_rfl) (by kernel_rfl) rfl (fun _ _ => opv_move (v := .int _ _) rfl) (E3.trans E4) ?_
      refine Wh_get 5 6 rfl (by kernel_rfl) (by kernel_rfl) rfl rfl (by kernel_rfl) (by kernel_rfl) (fun _ => rfl) Tryz.underlying58 Tryz.sizeOf3 Tryz.isAgg3 rfl hL (fun w' hw' => Ext.trans (Ext.refl _) hw') rfl (by first | omega | (simp <;> omega)) (E3.trans E4) ?_
      rintro _ _ rfl; refine Wh_take 7 rfl (by kernel_rfl) (by kernel_rfl) rfl (fun _ _ => opv_add rfl rfl (by omega)) (E3.trans E4) ?_; refine Wh_all (rs := [2]) (by kernel_rfl) rfl ?_; refine WhAll_cons rfl ?_ ?_
      refine Wo rfl (opv_load Tryz.isAgg58 rfl (E4.cell hcell)) ?_; refine Wo_nil ?_; refine ⟨(E3.trans E4), ?_⟩
      refine Wh_take 8 rfl (by kernel_rfl) (by kernel_rfl) rfl (fun _ _ => opv_indexAddr_z Tryz.underlying58 Tryz.sizeOf3 rfl rfl (by omega)) (E3.trans E4) ?_; refine Wh_all (rs := [9]) (by kernel_rfl) rfl ?_; refine WhAll_cons rfl ?_ ?_
      refine Wo_gset rfl Tryz.sizeOf3 rfl rfl (hO0.toB.ext E4) (hRw.ext E4) (by first | omega | (simp <;> omega)) (by first | omega | (simp <;> omega)) ?_; rintro w5 hO0 hRw On1 K2 hz2; have E5 := On1.ext1 (E3.trans E4) (by omega)
      have hs4 := On1.size; refine Wo_nil ?_; refine ⟨E5, ?_⟩; refine Wh_done (by kernel_rfl) ?_; refine W_region rfl ?_; refine Wo rfl (opv_move (v := .int _ _) rfl) ?_; refine Wo rfl (opv_add rfl rfl (by omega)) ?_
      refine Wo rfl (opv_assign (v := .int _ _) rfl) ?_; refine Wo_nil ?_; rotate_left; exact WhAll_nil; exact WhAll_nil; (exfalso; omega)
    refine ⟨((k + 1, rows.set 0 (rows[0].set (1 + (ints L)[k]'(by omega)).toNat 1))), by repeat (first | exact trivial | refine And.intro rfl ?_), by repeat (first | with_reducible exact Same.refl | refine Same.upd rfl ?_ | refine Same.upds rfl ?_ | refine Same.mix rfl ?_), ?_, ?_⟩
    · refine ⟨by exact E5, by omega, by exact hO0, ?_⟩
      rw [row_next (Q := rows) (i := 0) (r := ro g (L.take k)) (r' := ro g (L.take (k + 1))) (by rw [hrw]; rfl) (by omega) ?_]
      · rw [hrw]; rfl
      · rw [hr0, show (1 + (ints L)[k]'(by omega)).toNat = L[k] + 1 by rw [hgk]; omega, ro_step (by omega), ← take_snoc]
    · simp only; omega
  · obtain rfl : k = L.length := by omega
    rw [List.take_length] at hrw hr0
    clear hRw
    focus
      have szE3 := E3.size; have szE2 := E2.size; have szE1 := E1.size; refine W_seq ?_; refine W_seq ?_; refine W_region rfl ?_; refine Wo rfl (opv_move (v := .int _ _) rfl) ?_; refine Wo rfl (opv_move (v := vl) rfl) ?_
      refine Wo rfl (opv_len Tryz.underlying58 rfl hL) ?_; refine Wo rfl (opv_lss rfl rfl) ?_; refine Wo_nil ?_; refine W_cond_dec rfl (fun h1 => ?_) (fun h1 => ?_); (exfalso; omega); refine W_exit ?_; refine exitX_same ?_
      refine W_seq ?_; refine W_seq ?_; refine W_region rfl ?_; refine Wo rfl (opv_assign (v := .int _ _) rfl) ?_; refine Wo_nil ?_; refine W_block ?_
    refine W_loop [12, 43, 44, 45, 46, 47, 48, 49, 50, 51, 52, 53, 54, 55, 56, 57, 58, 59, 60] (fun ((k, rows) : Nat × List (List Int)) => [(12, .int .i64 (k : Nat))]) (fun (k, rows) w' => Ext w w' ∧ k ≤ R.length ∧ Owned w.heap.size XR w' (.slice (some ⟨b2, 0, none⟩) 1 1) rows ∧ rows = [ro g (L ++ (R.take k).map (p.length + ·))]) (fun x => R.length - x.1) (0, rows) (by repeat (first | exact trivial | refine And.intro rfl ?_)) ?_ ?_
    · exact ⟨by exact E3, Nat.zero_le _, hO0, by rw [hrw]; simp⟩
    clear hO0 hr0 hr0l hlr hrw
    rintro ⟨k, rows⟩ ρk w4 ⟨E4, hk, hO0, hrw⟩
    have hlr : rows.length = 1 := by rw [hrw]; rfl
    have hr0 : rows[0]'(by omega) = ro g (L ++ (R.take k).map (p.length + ·)) := by simp only [hrw, List.getElem_cons_zero]
    have hr0l : (rows[0]'(by omega)).length = g + 1 := by rw [hr0]; exact hrl0 _
    obtain ⟨br, cr, hRw, hbr1, hbr2⟩ := hO0.rowAt (i := 0) (by omega) (by omega)
    by_cases hlt : k < R.length
    · have hgk : (ints R)[k]'(by omega) = (R[k] : Int) := ints_get hlt
      have hRk := hr R[k] (List.getElem_mem hlt)
      have hcell := rowAt_cell hRw
      have heldS : w = w := rfl
      focus
        have szE4 := E4.size; have szE3 := E3.size; have szE2 := E2.size; have szE1 := E1.size; refine W_seq ?_; refine W_seq ?_; refine W_region rfl ?_; refine Wo rfl (opv_move (v := .int _ _) rfl) ?_
        refine Wo rfl (opv_move (v := vr) rfl) ?_; refine Wo rfl (opv_len Tryz.underlying58 rfl hR) ?_; refine Wo rfl (opv_lss rfl rfl) ?_; refine Wo_nil ?_; refine W_cond_dec rfl (fun h2 => ?_) (fun h2 => ?_); refine W_skip ?_
        refine W_seq ?_; refine W_block ?_; refine W_held (fun w' => Ext w w') mixed rfl (by kernel_rfl) ?_; intro w5 E5 K1 hz1; have hs3 := E5.size
        refine Wh_take 0 rfl (by kernel_rfl) (by kernel_rfl) rfl (fun _ _ => opv_move (v := .slice _ _ _) rfl) (E4.trans E5) ?_
        refine Wh_take 1 rfl (by kernel_rfl) (by kernel_rfl) rfl (fun _ _ => opv_indexAddr (k := 0) Tryz.underlying22 Tryz.sizeOf58 rfl rfl (by omega)) (E4.trans E5) ?_
        refine Wh_take 3 rfl (by kernel_rfl) (by kernel_rfl) rfl (fun _ _ => opv_move (v := v) rfl) (E4.trans E5) ?_; refine Wh_take 4 rfl (by kernel_rfl) (by kernel_rfl) rfl (fun _ _ => opv_len Tryz.underlying22 rfl h) (E4.trans E5) ?_
        refine Wh_take 5 rfl (by kernel_rfl) (by kernel_rfl) rfl (fun _ _ => opv_add rfl rfl (by omega)) (E4.trans E5) ?_; refine Wh_take 6 rfl (by kernel_rfl) (by kernel_rfl) rfl (fun _ _ => opv_move (v := vr) rfl) (E4.trans E5) ?_
        refine Wh_take 7 rfl (by kernel_rfl) (by kernel_rfl) rfl (fun _ _ => opv_move (v := .int _ _) rfl) (E4.trans E5) ?_
        refine Wh_get 8 9 rfl (by kernel_rfl) (by kernel_rfl) rfl rfl (by kernel_rfl) (by kernel_rfl) (fun _ => rfl) Tryz.underlying58 Tryz.sizeOf3 Tryz.isAgg3 rfl hR (fun w' hw' => Ext.trans (Ext.refl _) hw') rfl (by first | omega | (simp <;> omega)) (E4.trans E5) ?_
        rintro _ _ rfl; refine Wh_take 10 rfl (by kernel_rfl) (by kernel_rfl) rfl (fun _ _ => opv_add rfl rfl (by omega)) (E4.trans E5) ?_; refine Wh_all (rs := [2]) (by kernel_rfl) rfl ?_; refine WhAll_cons rfl ?_ ?_
        refine Wo rfl (opv_load Tryz.isAgg58 rfl (E5.cell hcell)) ?_; refine Wo_nil ?_; refine ⟨(E4.trans E5), ?_⟩
        refine Wh_take 11 rfl (by kernel_rfl) (by kernel_rfl) rfl (fun _ _ => opv_indexAddr_z Tryz.underlying58 Tryz.sizeOf3 rfl rfl (by omega)) (E4.trans E5) ?_; refine Wh_all (rs := [12]) (by kernel_rfl) rfl ?_
        refine WhAll_cons rfl ?_ ?_; refine Wo_gset rfl Tryz.sizeOf3 rfl rfl (hO0.toB.ext E5) (hRw.ext E5) (by first | omega | (simp <;> omega)) (by first | omega | (simp <;> omega)) ?_; rintro w6 hO0 hRw On1 K2 hz2
        have E6 := On1.ext1 (E4.trans E5) (by omega); have hs4 := On1.size; refine Wo_nil ?_; refine ⟨E6, ?_⟩; refine Wh_done (by kernel_rfl) ?_; refine W_region rfl ?_; refine Wo rfl (opv_move (v := .int _ _) rfl) ?_
        refine Wo rfl (opv_add rfl rfl (by omega)) ?_; refine Wo rfl (opv_assign (v := .int _ _) rfl) ?_; refine Wo_nil ?_; rotate_left; exact WhAll_nil; exact WhAll_nil; (exfalso; omega)
      refine ⟨((k + 1, rows.set 0 (rows[0].set (1 + (p.length : Int) + (ints R)[k]'(by omega)).toNat 1))), by repeat (first | exact trivial | refine And.intro rfl ?_), by repeat (first | with_reducible exact Same.refl | refine Same.upd rfl ?_ | refine Same.upds rfl ?_ | refine Same.mix rfl ?_), ?_, ?_⟩
      · refine ⟨by exact E6, by omega, by exact hO0, ?_⟩
        rw [row_next (Q := rows) (i := 0) (r := ro g (L ++ (R.take k).map (p.length + ·))) (r' := ro g (L ++ (R.take (k + 1)).map (p.length + ·))) (by rw [hrw]; rfl) (by omega) ?_]
        · rw [hrw]; rfl
        · rw [hr0, show (1 + (p.length : Int) + (ints R)[k]'(by omega)).toNat = (p.length + R[k]) + 1 by rw [hgk]; omega, ro_step (by omega), take_snoc _ _ hlt, List.map_append, List.append_assoc]
          rfl
      · simp only; omega
    · obtain rfl : k = R.length := by omega
      rw [List.take_length] at hrw hr0
      obtain ⟨ms, hms⟩ : ∃ ms, ms = L ++ R.map (p.length + ·) := ⟨_, rfl⟩
      rw [← hms] at hrw hr0 ⊢
      clear hRw
      focus
        have szE4 := E4.size; have szE3 := E3.size; have szE2 := E2.size; have szE1 := E1.size; refine W_seq ?_; refine W_seq ?_; refine W_region rfl ?_; refine Wo rfl (opv_move (v := .int _ _) rfl) ?_
        refine Wo rfl (opv_move (v := vr) rfl) ?_; refine Wo rfl (opv_len Tryz.underlying58 rfl hR) ?_; refine Wo rfl (opv_lss rfl rfl) ?_; refine Wo_nil ?_; refine W_cond_dec rfl (fun h2 => ?_) (fun h2 => ?_); (exfalso; omega)
        refine W_exit ?_; refine exitX_same ?_; refine W_seq ?_; refine W_seq ?_; refine W_region rfl ?_; refine Wo rfl (opv_assign (v := .int _ _) rfl) ?_; refine Wo_nil ?_; refine W_block ?_
      refine W_loop [10, 13, 14, 15, 61, 62, 63, 64, 65, 66, 67, 68, 69, 70, 71, 72, 73, 74, 75, 76, 77, 78, 79, 80, 81, 82, 83, 84, 85, 86, 87, 88, 89] (fun ((k, o) : Nat × Value) => [(13, .int .i64 (k : Nat)), (10, o)]) (fun (k, o) w' => Ext w w' ∧ k ≤ p.length ∧ Owned w.heap.size XR w' o (ro g ms :: (p.take k).map fun r => List.replicate 1 0 ++ r ++ List.replicate q.length 0)) (fun x => p.length - x.1) (0, .slice (some ⟨b2, 0, none⟩) 1 1) (by repeat (first | exact trivial | refine And.intro rfl ?_)) ?_ ?_
      · exact ⟨by exact E4, Nat.zero_le _, by rw [hrw] at hO0; exact hO0⟩
      clear hO0 hr0 hr0l hlr hrw
      rintro ⟨k, o⟩ ρl w5 ⟨E5, hk, hO0⟩
      have htl : (ro g ms :: (p.take k).map fun r => List.replicate 1 0 ++ r ++ List.replicate q.length 0).length = k + 1 := by simp; omega
      by_cases hlt : k < p.length
      · have hrow := hp.row hlt
        focus
          have szE5 := E5.size; have szE4 := E4.size; have szE3 := E3.size; have szE2 := E2.size; have szE1 := E1.size; refine W_seq ?_; refine W_seq ?_; refine W_region rfl ?_; refine Wo rfl (opv_move (v := .int _ _) rfl) ?_
          refine Wo rfl (opv_move (v := v) rfl) ?_; refine Wo rfl (opv_len Tryz.underlying22 rfl h) ?_; refine Wo rfl (opv_lss rfl rfl) ?_; refine Wo_nil ?_; refine W_cond_dec rfl (fun h3 => ?_) (fun h3 => ?_); refine W_skip ?_
          refine W_seq ?_; refine W_block ?_; refine W_seq ?_; refine W_region rfl ?_; refine Wo rfl (opv_move (v := .int _ _) rfl) ?_; refine Wo_makeI rfl el58 (int_z (by omega) rfl) (by omega) ?_; rintro b3 w6 hb3 b3lt E6 hO1
          have hs3 := E6.size; refine Wo rfl (opv_assign (v := .slice _ _ _) rfl) ?_; refine Wo_nil ?_; refine W_seq ?_; refine W_seq ?_; refine W_region rfl ?_; refine Wo rfl (opv_assign (v := .int _ _) rfl) ?_; refine Wo_nil ?_
          refine W_block ?_; rotate_left; (exfalso; omega)
        have hbb := hO1.lt_own (k := b3) rfl
        have hrl3 : ∀ j, j ≤ p.length → (List.replicate 1 (0 : Int) ++ p[k].take j ++ List.replicate ((1 + (p.length : Int) + (q.length : Int)).toNat - 1 - j) 0).length = g + 1 := fun j hj => by simp; omega
        refine W_loop [15, 69, 70, 71, 72, 73, 74, 75, 76, 77, 78, 79, 80, 81, 82, 83, 84, 85] (fun (j : Nat) => [(15, .int .i64 (j : Nat))]) (fun j w' => Ext w w' ∧ w5.heap.size ≤ w'.heap.size ∧ j ≤ p.length ∧ OwnedB w.heap.size w5.heap.size XR w' o (ro g ms :: (p.take k).map fun r => List.replicate 1 0 ++ r ++ List.replicate q.length 0) ∧ Owned w5.heap.size XI w' (.slice (some ⟨b3, 0, none⟩) (1 + (p.length : Int) + (q.length : Int)).toNat (1 + (p.length : Int) + (q.length : Int)).toNat) (List.replicate 1 0 ++ p[k].take j ++ List.replicate ((1 + (p.length : Int) + (q.length : Int)).toNat - 1 - j) 0)) (fun j => p.length - j) 0 (by repeat (first | exact trivial | refine And.intro rfl ?_)) ?_ ?_
        · refine ⟨by exact (E5.trans E6), by omega, Nat.zero_le _, hO0.toB.ext (by exact E6), ?_⟩
          rw [show List.replicate 1 (0 : Int) ++ p[k].take 0 ++ List.replicate ((1 + (p.length : Int) + (q.length : Int)).toNat - 1 - 0) 0 = List.replicate (1 + (p.length : Int) + (q.length : Int)).toNat 0 by
            rw [List.take_zero, List.append_nil, List.replicate_append_replicate]; congr 1; omega]
          exact hO1
        clear hO0 hO1
        rintro j ρm w7 ⟨E7, hs7, hj, hO0, hO1⟩
        have hrj := hrl3 j hj
        by_cases hjl : j < p.length
        · focus
            have szE7 := E7.size; have szE6 := E6.size; have szE5 := E5.size; have szE4 := E4.size; have szE3 := E3.size; have szE2 := E2.size; have szE1 := E1.size; refine W_seq ?_; refine W_seq ?_; refine W_region rfl ?_
            refine Wo rfl (opv_move (v := .int _ _) rfl) ?_; refine Wo rfl (opv_move (v := v) rfl) ?_; refine Wo rfl (opv_len Tryz.underlying22 rfl h) ?_; refine Wo rfl (opv_lss rfl rfl) ?_; refine Wo_nil ?_
            refine W_cond_dec rfl (fun h4 => ?_) (fun h4 => ?_); refine W_skip ?_; refine W_seq ?_; refine W_block ?_; refine W_region rfl ?_; refine Wo rfl (opv_move (v := .slice _ _ _) rfl) ?_; refine Wo rfl (opv_move (v := .int _ _) rfl) ?_
            refine Wo rfl (opv_add rfl rfl (by omega)) ?_; refine Wo rfl (opv_move (v := v) rfl) ?_; refine Wo rfl (opv_move (v := .int _ _) rfl) ?_
            refine Wo_get Tryz.underlying22 Tryz.sizeOf58 Tryz.isAgg58 rfl (fun _ => rfl) rfl h E7 rfl (by first | omega | (simp <;> omega)) ?_; rintro _ u1 hu1; refine Wo rfl (opv_move (v := .int _ _) rfl) ?_
            refine Wo_get Tryz.underlying58 Tryz.sizeOf3 Tryz.isAgg3 rfl (fun _ => rfl) rfl hu1 E7 rfl (by first | omega | (simp <;> omega)) ?_; rintro _ _ rfl
            refine Wo rfl (opv_indexAddr_z Tryz.underlying58 Tryz.sizeOf3 rfl rfl (by omega)) ?_; refine Wo_set rfl Tryz.sizeOf3 rfl rfl hO1.toB (by first | omega | (simp <;> omega)) Owned.int (Nat.le_refl _) (by omega) ?_
            rintro w8 hO1 On1 K1 hz1; have E8 := On1.ext1 E7 (by omega); have hO0 := hO0.wrote K1 (by omega); have hs4 := On1.size; refine Wo_nil ?_; refine W_region rfl ?_; refine Wo rfl (opv_move (v := .int _ _) rfl) ?_
            refine Wo rfl (opv_add rfl rfl (by omega)) ?_; refine Wo rfl (opv_assign (v := .int _ _) rfl) ?_; refine Wo_nil ?_; rotate_left; (exfalso; omega)
          refine ⟨(j + 1), by repeat (first | exact trivial | refine And.intro rfl ?_), by repeat (first | with_reducible exact Same.refl | refine Same.upd rfl ?_ | refine Same.upds rfl ?_ | refine Same.mix rfl ?_), ?_, ?_⟩
          · refine ⟨by exact E8, by omega, by omega, by exact hO0, ?_⟩
            rw [← shift_row j (by omega) (by omega)]
            have e : (1 + (j : Int)).toNat = 1 + j := by omega
            rw [← e]
            assumption
          · omega
        · obtain rfl : j = p.length := by omega
          focus
            have szE7 := E7.size; have szE6 := E6.size; have szE5 := E5.size; have szE4 := E4.size; have szE3 := E3.size; have szE2 := E2.size; have szE1 := E1.size; refine W_seq ?_; refine W_seq ?_; refine W_region rfl ?_
            refine Wo rfl (opv_move (v := .int _ _) rfl) ?_; refine Wo rfl (opv_move (v := v) rfl) ?_; refine Wo rfl (opv_len Tryz.underlying22 rfl h) ?_; refine Wo rfl (opv_lss rfl rfl) ?_; refine Wo_nil ?_
            refine W_cond_dec rfl (fun h4 => ?_) (fun h4 => ?_); (exfalso; omega); refine W_exit ?_; refine exitX_same ?_; refine W_region rfl ?_; refine Wo rfl (opv_move (v := o) rfl) ?_; refine Wo rfl (opv_move (v := .slice _ _ _) rfl) ?_
            refine Wo_buildSlice (ps := [(0, .slice _ _ _)]) (cs := [_]) rfl Tryz.underlying22 Tryz.sizeOf58 Tryz.zeroValue58 rfl rfl rfl rfl ?_; rintro b4 w8 hb4 E8 hB1; have hlb4 := hB1.lt; have hs4 := E8.size
            refine Wo_app1 rfl el22 rfl rfl hB1 (hO0.ext E8) (hO1.toB.ext E8).o (by omega) (by first | omega | (simp <;> omega)) (by omega) (by omega) (E7.trans E8) (by omega) ?_; have hT1 := (hO0.ext E8); rintro v1 w9 hO0 E9 M1
            have hO1 := (hO1.toB.ext E8).moves M1 hT1 (by omega); have hB1 := hB1.moves M1 hT1 (by omega); have hs5 := E9.size; refine Wo rfl (opv_assign (v := v1) rfl) ?_; refine Wo_nil ?_; refine W_region rfl ?_
            refine Wo rfl (opv_move (v := .int _ _) rfl) ?_; refine Wo rfl (opv_add rfl rfl (by omega)) ?_; refine Wo rfl (opv_assign (v := .int _ _) rfl) ?_; refine Wo_nil ?_
          refine ⟨((k + 1, v1)), by repeat (first | exact trivial | refine And.intro rfl ?_), by repeat (first | with_reducible exact Same.refl | refine Same.upd rfl ?_ | refine Same.upds rfl ?_ | refine Same.mix rfl ?_), ?_, ?_⟩
          · refine ⟨by exact E9, by omega, ?_⟩
            rw [take_snoc _ _ hlt, List.map_append, ← List.cons_append]
            have e : List.replicate 1 (0 : Int) ++ p[k].take p.length ++ List.replicate ((1 + (p.length : Int) + (q.length : Int)).toNat - 1 - p.length) 0 = List.replicate 1 0 ++ p[k] ++ List.replicate q.length 0 := by
              rw [List.take_of_length_le (by omega)]; congr 2; omega
            simp only [List.map_cons, List.map_nil]
            rw [← e]
            assumption
          · simp only; omega
      · obtain rfl : k = p.length := by omega
        rw [List.take_length] at hO0 htl
        focus
          have szE5 := E5.size; have szE4 := E4.size; have szE3 := E3.size; have szE2 := E2.size; have szE1 := E1.size; refine W_seq ?_; refine W_seq ?_; refine W_region rfl ?_; refine Wo rfl (opv_move (v := .int _ _) rfl) ?_
          refine Wo rfl (opv_move (v := v) rfl) ?_; refine Wo rfl (opv_len Tryz.underlying22 rfl h) ?_; refine Wo rfl (opv_lss rfl rfl) ?_; refine Wo_nil ?_; refine W_cond_dec rfl (fun h3 => ?_) (fun h3 => ?_); (exfalso; omega)
          refine W_exit ?_; refine exitX_same ?_; refine W_seq ?_; refine W_seq ?_; refine W_region rfl ?_; refine Wo rfl (opv_assign (v := .int _ _) rfl) ?_; refine Wo_nil ?_; refine W_block ?_
        refine W_loop [10, 16, 17, 18, 90, 91, 92, 93, 94, 95, 96, 97, 98, 99, 100, 101, 102, 103, 104, 105, 106, 107, 108, 109, 110, 111, 112, 113, 114, 115, 116, 117, 118, 119, 120, 121] (fun ((k, o) : Nat × Value) => [(16, .int .i64 (k : Nat)), (10, o)]) (fun (k, o) w' => Ext w w' ∧ k ≤ q.length ∧ Owned w.heap.size XR w' o ((ro g ms :: p.map fun r => List.replicate 1 0 ++ r ++ List.replicate q.length 0) ++ (q.take k).map fun r => List.replicate (1 + p.length) 0 ++ r)) (fun x => q.length - x.1) (0, o) (by repeat (first | exact trivial | refine And.intro rfl ?_)) ?_ ?_
        · exact ⟨by exact E5, Nat.zero_le _, by simpa using hO0⟩
        clear hO0
        rintro ⟨k, o2⟩ ρm w6 ⟨E6, hk, hO0⟩
        have htl2 : ((ro g ms :: p.map fun r => List.replicate 1 0 ++ r ++ List.replicate q.length 0) ++ (q.take k).map fun r => List.replicate (1 + p.length) 0 ++ r).length = p.length + 1 + k := by rw [List.length_append, htl]; simp; omega
        by_cases hlt : k < q.length
        · have hrow := hqrow k hlt
          focus
            have szE6 := E6.size; have szE5 := E5.size; have szE4 := E4.size; have szE3 := E3.size; have szE2 := E2.size; have szE1 := E1.size; refine W_seq ?_; refine W_seq ?_; refine W_region rfl ?_
            refine Wo rfl (opv_move (v := .int _ _) rfl) ?_; refine Wo rfl (opv_move (v := u) rfl) ?_; refine Wo rfl (opv_len Tryz.underlying22 rfl h') ?_; refine Wo rfl (opv_lss rfl rfl) ?_; refine Wo_nil ?_
            refine W_cond_dec rfl (fun h4 => ?_) (fun h4 => ?_); refine W_skip ?_; refine W_seq ?_; refine W_block ?_; refine W_seq ?_; refine W_region rfl ?_; refine Wo rfl (opv_move (v := .int _ _) rfl) ?_
            refine Wo_makeI rfl el58 (int_z (by omega) rfl) (by omega) ?_; rintro b3 w7 hb3 b3lt E7 hO1; have hs3 := E7.size; refine Wo rfl (opv_assign (v := .slice _ _ _) rfl) ?_; refine Wo_nil ?_; refine W_seq ?_; refine W_seq ?_
            refine W_region rfl ?_; refine Wo rfl (opv_assign (v := .int _ _) rfl) ?_; refine Wo_nil ?_; refine W_block ?_; rotate_left; (exfalso; omega)
          have hbb := hO1.lt_own (k := b3) rfl
          have hrl3 : ∀ j, j ≤ q.length → (List.replicate (1 + p.length) (0 : Int) ++ q[k].take j ++ List.replicate ((1 + (p.length : Int) + (q.length : Int)).toNat - (1 + p.length) - j) 0).length = g + 1 := fun j hj => by simp; omega
          refine W_loop [18, 98, 99, 100, 101, 102, 103, 104, 105, 106, 107, 108, 109, 110, 111, 112, 113, 114, 115, 116, 117] (fun (j : Nat) => [(18, .int .i64 (j : Nat))]) (fun j w' => Ext w w' ∧ w6.heap.size ≤ w'.heap.size ∧ j ≤ q.length ∧ OwnedB w.heap.size w6.heap.size XR w' o2 ((ro g ms :: p.map fun r => List.replicate 1 0 ++ r ++ List.replicate q.length 0) ++ (q.take k).map fun r => List.replicate (1 + p.length) 0 ++ r) ∧ Owned w6.heap.size XI w' (.slice (some ⟨b3, 0, none⟩) (1 + (p.length : Int) + (q.length : Int)).toNat (1 + (p.length : Int) + (q.length : Int)).toNat) (List.replicate (1 + p.length) 0 ++ q[k].take j ++ List.replicate ((1 + (p.length : Int) + (q.length : Int)).toNat - (1 + p.length) - j) 0)) (fun j => q.length - j) 0 (by repeat (first | exact trivial | refine And.intro rfl ?_)) ?_ ?_
          · refine ⟨by exact (E6.trans E7), by omega, Nat.zero_le _, hO0.toB.ext (by exact E7), ?_⟩
            rw [show List.replicate (1 + p.length) (0 : Int) ++ q[k].take 0 ++ List.replicate ((1 + (p.length : Int) + (q.length : Int)).toNat - (1 + p.length) - 0) 0 = List.replicate (1 + (p.length : Int) + (q.length : Int)).toNat 0 by
              rw [List.take_zero, List.append_nil, List.replicate_append_replicate]; congr 1; omega]
            exact hO1
          clear hO0 hO1
          rintro j ρn w8 ⟨E8, hs8, hj, hO0, hO1⟩
          have hrj := hrl3 j hj
          by_cases hjl : j < q.length
          · focus
              have szE8 := E8.size; have szE7 := E7.size; have szE6 := E6.size; have szE5 := E5.size; have szE4 := E4.size; have szE3 := E3.size; have szE2 := E2.size; have szE1 := E1.size; refine W_seq ?_; refine W_seq ?_; refine W_region rfl ?_
              refine Wo rfl (opv_move (v := .int _ _) rfl) ?_; refine Wo rfl (opv_move (v := u) rfl) ?_; refine Wo rfl (opv_len Tryz.underlying22 rfl h') ?_; refine Wo rfl (opv_lss rfl rfl) ?_; refine Wo_nil ?_
              refine W_cond_dec rfl (fun h5 => ?_) (fun h5 => ?_); refine W_skip ?_; refine W_seq ?_; refine W_block ?_; refine W_region rfl ?_; refine Wo rfl (opv_move (v := .slice _ _ _) rfl) ?_; refine Wo rfl (opv_move (v := v) rfl) ?_
              refine Wo rfl (opv_len Tryz.underlying22 rfl h) ?_; refine Wo rfl (opv_add rfl rfl (by omega)) ?_; refine Wo rfl (opv_move (v := .int _ _) rfl) ?_; refine Wo rfl (opv_add rfl rfl (by omega)) ?_
              refine Wo rfl (opv_move (v := u) rfl) ?_; refine Wo rfl (opv_move (v := .int _ _) rfl) ?_; refine Wo_get Tryz.underlying22 Tryz.sizeOf58 Tryz.isAgg58 rfl (fun _ => rfl) rfl h' E8 rfl (by first | omega | (simp <;> omega)) ?_
              rintro _ u1 hu1; refine Wo rfl (opv_move (v := .int _ _) rfl) ?_; refine Wo_get Tryz.underlying58 Tryz.sizeOf3 Tryz.isAgg3 rfl (fun _ => rfl) rfl hu1 E8 rfl (by first | omega | (simp <;> omega)) ?_; rintro _ _ rfl
              refine Wo rfl (opv_indexAddr_z Tryz.underlying58 Tryz.sizeOf3 rfl rfl (by omega)) ?_; refine Wo_set rfl Tryz.sizeOf3 rfl rfl hO1.toB (by first | omega | (simp <;> omega)) Owned.int (Nat.le_refl _) (by omega) ?_
              rintro w9 hO1 On1 K1 hz1; have E9 := On1.ext1 E8 (by omega); have hO0 := hO0.wrote K1 (by omega); have hs4 := On1.size; refine Wo_nil ?_; refine W_region rfl ?_; refine Wo rfl (opv_move (v := .int _ _) rfl) ?_
              refine Wo rfl (opv_add rfl rfl (by omega)) ?_; refine Wo rfl (opv_assign (v := .int _ _) rfl) ?_; refine Wo_nil ?_; rotate_left; (exfalso; omega)
            refine ⟨(j + 1), by repeat (first | exact trivial | refine And.intro rfl ?_), by repeat (first | with_reducible exact Same.refl | refine Same.upd rfl ?_ | refine Same.upds rfl ?_ | refine Same.mix rfl ?_), ?_, ?_⟩
            · refine ⟨by exact E9, by omega, by omega, by exact hO0, ?_⟩
              rw [← shift_row j (by omega) (by omega)]
              have e : (1 + (p.length : Int) + (j : Int)).toNat = 1 + p.length + j := by omega
              rw [← e]
              assumption
            · omega
          · obtain rfl : j = q.length := by omega
            focus
              have szE8 := E8.size; have szE7 := E7.size; have szE6 := E6.size; have szE5 := E5.size; have szE4 := E4.size; have szE3 := E3.size; have szE2 := E2.size; have szE1 := E1.size; refine W_seq ?_; refine W_seq ?_; refine W_region rfl ?_
              refine Wo rfl (opv_move (v := .int _ _) rfl) ?_; refine Wo rfl (opv_move (v := u) rfl) ?_; refine Wo rfl (opv_len Tryz.underlying22 rfl h') ?_; refine Wo rfl (opv_lss rfl rfl) ?_; refine Wo_nil ?_
              refine W_cond_dec rfl (fun h5 => ?_) (fun h5 => ?_); (exfalso; omega); refine W_exit ?_; refine exitX_same ?_; refine W_region rfl ?_; refine Wo rfl (opv_move (v := o2) rfl) ?_; refine Wo rfl (opv_move (v := .slice _ _ _) rfl) ?_
              refine Wo_buildSlice (ps := [(0, .slice _ _ _)]) (cs := [_]) rfl Tryz.underlying22 Tryz.sizeOf58 Tryz.zeroValue58 rfl rfl rfl rfl ?_; rintro b4 w9 hb4 E9 hB1; have hlb4 := hB1.lt; have hs4 := E9.size
              refine Wo_app1 rfl el22 rfl rfl hB1 (hO0.ext E9) (hO1.toB.ext E9).o (by omega) (by first | omega | (simp <;> omega)) (by omega) (by omega) (E8.trans E9) (by omega) ?_; have hT1 := (hO0.ext E9); rintro v1 w10 hO0 E10 M1
              have hO1 := (hO1.toB.ext E9).moves M1 hT1 (by omega); have hB1 := hB1.moves M1 hT1 (by omega); have hs5 := E10.size; refine Wo rfl (opv_assign (v := v1) rfl) ?_; refine Wo_nil ?_; refine W_region rfl ?_
              refine Wo rfl (opv_move (v := .int _ _) rfl) ?_; refine Wo rfl (opv_add rfl rfl (by omega)) ?_; refine Wo rfl (opv_assign (v := .int _ _) rfl) ?_; refine Wo_nil ?_
            refine ⟨((k + 1, v1)), by repeat (first | exact trivial | refine And.intro rfl ?_), by repeat (first | with_reducible exact Same.refl | refine Same.upd rfl ?_ | refine Same.upds rfl ?_ | refine Same.mix rfl ?_), ?_, ?_⟩
            · refine ⟨by exact E10, by omega, ?_⟩
              rw [take_snoc _ _ hlt, List.map_append, ← List.append_assoc]
              have e : List.replicate (1 + p.length) (0 : Int) ++ q[k].take q.length ++ List.replicate ((1 + (p.length : Int) + (q.length : Int)).toNat - (1 + p.length) - q.length) 0 = List.replicate (1 + p.length) 0 ++ q[k] := by
                rw [List.take_of_length_le (by omega), show (1 + (p.length : Int) + (q.length : Int)).toNat - (1 + p.length) - q.length = 0 by omega]; simp
              simp only [List.map_cons, List.map_nil]
              rw [← e]
              assumption
            · simp only; omega
        · obtain rfl : k = q.length := by omega
          focus
            have szE6 := E6.size; have szE5 := E5.size; have szE4 := E4.size; have szE3 := E3.size; have szE2 := E2.size; have szE1 := E1.size; refine W_seq ?_; refine W_seq ?_; refine W_region rfl ?_
            refine Wo rfl (opv_move (v := .int _ _) rfl) ?_; refine Wo rfl (opv_move (v := u) rfl) ?_; refine Wo rfl (opv_len Tryz.underlying22 rfl h') ?_; refine Wo rfl (opv_lss rfl rfl) ?_; refine Wo_nil ?_
            refine W_cond_dec rfl (fun h4 => ?_) (fun h4 => ?_); (exfalso; omega); refine W_exit ?_; refine exitX_same ?_; refine W_seq ?_; refine W_region rfl ?_; refine Wo rfl (opv_move (v := o2) rfl) ?_
            refine Wo rfl (opv_assign (v := o2) rfl) ?_; refine Wo_nil ?_; refine W_ret ?_; refine ⟨E6, (congrArg (Owned _ _ _ _) ?_).mp (hO0.toB.o.mono (by omega))⟩
          rw [List.take_length, put_eq, bes_len, ← hg]
          unfold bes
          rw [List.map_append, List.map_map, List.map_map]
          simp only [List.cons_append, List.cons.injEq, true_and]
          congr 1
          · refine List.map_congr_left fun r _ => ?_
            simp [Nat.add_comm 1, List.replicate_succ]

end Go.Proofs.YtgphoihilheoeaaGreatDoor
namespace Go.Proofs.YtgphoihilheoeaaGreatDoor
open Go.Hs
set_option maxRecDepth 10000
set_option maxHeartbeats 4000000
set_option linter.unusedVariables false
set_option linter.unusedSimpArgs false

theorem l6Least_ok (w : World) (v : Value) (p : List (List Int)) (h : ESl Ints w v p) (hp : Gr p) :
    Does Tryz.prog 107 [v] w (RetOB w XR (if (lst p 0).length ≤ 5 then lst p 0 else []) (decide ((lst p 0).length ≤ 5))) := by
  have hp5 := hp.2.1
  have hp1 := hp.1
  have hle := h.le
  have hkl := ikndL_len (p := p)
  have k1 : ∀ w, Does Tryz.prog 127 [.int .i64 (p.length : Int)] w (RetO w XR (matV p (bsm p 0))) := fun w => by
    have := l3Start_ok w p.length hp5
    rwa [matV_zero] at this
  have k2 : ∀ (n : Nat) (w : World) (v v' : Value), ESl Ints w v p → ESl Ints w v' (matV p (bsm p n)) → Does Tryz.prog 128 [v, v'] w (RetO w XR (matV p (bsm p (n + 1)))) := fun n w v v' h h' => l3Round_ok w v v' p h hp _ h'
  refine fn_of_W2 Tryz.func107 rfl Tryz.results107 Tryz.ntmps107 rfl ?_
  focus
    refine W_seq ?_; refine W_region rfl ?_; refine Wo rfl (opv_assign (v := .slice _ _ _) rfl) ?_; refine Wo rfl (opv_assign (v := .bool _) rfl) ?_; refine Wo_nil ?_; refine W_seq ?_; refine W_region rfl ?_
    refine Wo rfl (opv_move (v := v) rfl) ?_; refine Wo rfl (opv_len Tryz.underlying22 rfl h) ?_; refine Wo_call rfl (opc1 (a := .int _ _) Tryz.call127 rfl) (k1 _) ?_; rintro u1 w1 ⟨E1, hO1⟩; have hs1 := E1.size
    refine Wo rfl (opv_assign (v := u1) rfl) ?_; refine Wo_nil ?_; refine W_seq ?_; refine W_seq ?_; refine W_region rfl ?_; refine Wo rfl (opv_assign (v := .int _ _) rfl) ?_; refine Wo_nil ?_; refine W_block ?_
  refine W_loop [4, 5, 17, 18, 19, 20, 21, 22, 23, 24, 25] (fun ((n, u) : Nat × Value) => [(5, .int .i64 (n : Nat)), (4, u)]) (fun (n, u) w' => Ext w w' ∧ n ≤ p.length ∧ Owned w.heap.size XR w' u (matV p (bsm p n))) (fun x => p.length - x.1) (0, u1) (by repeat (first | exact trivial | refine And.intro rfl ?_)) ?_ ?_
  · exact ⟨by exact E1, Nat.zero_le _, hO1⟩
  clear hO1
  rintro ⟨n, um⟩ ρj w2 ⟨E2, hn, hO1⟩
  have k2n := k2 n
  by_cases hnl : n < p.length
  · focus
      have szE2 := E2.size; have szE1 := E1.size; refine W_seq ?_; refine W_seq ?_; refine W_region rfl ?_; refine Wo rfl (opv_move (v := .int _ _) rfl) ?_; refine Wo rfl (opv_move (v := v) rfl) ?_
      refine Wo rfl (opv_len Tryz.underlying22 rfl h) ?_; refine Wo rfl (opv_lss rfl rfl) ?_; refine Wo_nil ?_; refine W_cond_dec rfl (fun h1 => ?_) (fun h1 => ?_); refine W_skip ?_; refine W_seq ?_; refine W_block ?_
      refine W_region rfl ?_; refine Wo rfl (opv_move (v := v) rfl) ?_; refine Wo rfl (opv_move (v := um) rfl) ?_; refine Wo_call rfl (opc2 (a := v) (b := um) Tryz.call128 rfl rfl) (k2n _ _ _ ((Mono.mono E2 h)) ((Owned.read hO1))) ?_
      rintro u2 w3 ⟨E3, hO2⟩; have hs2 := E3.size; refine Wo rfl (opv_assign (v := u2) rfl) ?_; refine Wo_nil ?_; refine W_region rfl ?_; refine Wo rfl (opv_move (v := .int _ _) rfl) ?_; refine Wo rfl (opv_add rfl rfl (by omega)) ?_
      refine Wo rfl (opv_assign (v := .int _ _) rfl) ?_; refine Wo_nil ?_; rotate_left; (exfalso; omega)
    refine ⟨((n + 1, u2)), by repeat (first | exact trivial | refine And.intro rfl ?_), by repeat (first | with_reducible exact Same.refl | refine Same.upd rfl ?_ | refine Same.upds rfl ?_ | refine Same.mix rfl ?_), ?_, ?_⟩
    · exact ⟨by exact (E2.trans E3), by omega, hO2.mono (by omega)⟩
    · simp only; omega
  · obtain rfl : n = p.length := by omega
    clear k1 k2 k2n
    have hml := matV_len (p := p) (bsm p p.length)
    have rM := hO1.read
    clear hO1
    focus
      have szE2 := E2.size; have szE1 := E1.size; refine W_seq ?_; refine W_seq ?_; refine W_region rfl ?_; refine Wo rfl (opv_move (v := .int _ _) rfl) ?_; refine Wo rfl (opv_move (v := v) rfl) ?_
      refine Wo rfl (opv_len Tryz.underlying22 rfl h) ?_; refine Wo rfl (opv_lss rfl rfl) ?_; refine Wo_nil ?_; refine W_cond_dec rfl (fun h1 => ?_) (fun h1 => ?_); (exfalso; omega); refine W_exit ?_; refine exitX_same ?_; refine W_seq ?_
      refine W_region rfl ?_; refine Wo_lit0 XInt rfl el58 Tryz.sizeOf3 ?_; rintro b1 w3 hb1 b1lt E3 hO1; have hs2 := E3.size; refine Wo rfl (opv_assign (v := .slice _ _ _) rfl) ?_; refine Wo_nil ?_; refine W_seq ?_; refine W_seq ?_
      refine W_region rfl ?_; refine Wo rfl (opv_assign (v := .int _ _) rfl) ?_; refine Wo_nil ?_; refine W_block ?_
    refine W_loop [6, 7, 8, 27, 28, 29, 30, 31, 32, 33, 34, 35, 36, 37, 38, 39, 40, 41, 42, 43, 44, 45, 46, 47, 48, 49, 50] (fun ((k, u) : Nat × Value) => [(7, .int .i64 (k : Nat)), (6, u)]) (fun (k, u) w' => Ext w2 w' ∧ k ≤ p.length ∧ Owned w2.heap.size XI w' u ((ints (kndL p)).take k)) (fun x => p.length - x.1) (0, .slice (some ⟨b1, 0, none⟩) 0 0) (by repeat (first | exact trivial | refine And.intro rfl ?_)) ?_ ?_
    · exact ⟨by exact E3, Nat.zero_le _, by simpa using hO1⟩
    clear hO1
    rintro ⟨k, uk⟩ ρk w4 ⟨E4, hk, hO1⟩
    have htl : ((ints (kndL p)).take k).length = k := by simp; omega
    by_cases hlt : k < p.length
    · obtain ⟨g1, g2, g3⟩ := knd_spec hlt
      focus
        have szE4 := E4.size; have szE3 := E3.size; have szE2 := E2.size; have szE1 := E1.size; refine W_seq ?_; refine W_seq ?_; refine W_region rfl ?_; refine Wo rfl (opv_move (v := .int _ _) rfl) ?_
        refine Wo rfl (opv_move (v := v) rfl) ?_; refine Wo rfl (opv_len Tryz.underlying22 rfl h) ?_; refine Wo rfl (opv_lss rfl rfl) ?_; refine Wo_nil ?_; refine W_cond_dec rfl (fun h2 => ?_) (fun h2 => ?_); refine W_skip ?_
        refine W_seq ?_; refine W_block ?_; refine W_seq ?_; refine W_region rfl ?_; refine Wo rfl (opv_assign (v := .int _ _) rfl) ?_; refine Wo_nil ?_; refine W_block ?_; rotate_left; (exfalso; omega)
      refine W_loop [6, 8, 33, 34, 35, 36, 37, 38, 39, 40, 41, 42, 43, 44, 45, 46, 47, 48, 49, 50] (fun (j : Nat) => [(8, .int .i64 (j : Nat)), (6, uk)]) (fun j w' => w' = w4 ∧ j ≤ knd p k) (fun j => p.length - j) 0 (by repeat (first | exact trivial | refine And.intro rfl ?_)) ?_ ?_
      · exact ⟨rfl, Nat.zero_le _⟩
      rintro j ρl w5 ⟨rfl, hj⟩
      have hmr := matV_rlen (p := p) (S := bsm p p.length) hlt
      have hma := matV_at (p := p) (S := bsm p p.length) (a := k) (b := j) hlt (by omega)
      rcases Nat.lt_or_ge j (knd p k) with hjl | hjl
      · have h0 : ((matV p (bsm p p.length))[k]'(by omega))[j]'(by omega) = 0 := by rw [hma, show bsm p p.length k j = false from g3 j hjl]; rfl
        focus
          have szE4 := E4.size; have szE3 := E3.size; have szE2 := E2.size; have szE1 := E1.size; refine W_seq ?_; refine W_seq ?_; refine W_region rfl ?_; refine Wo rfl (opv_move (v := .int _ _) rfl) ?_
          refine Wo rfl (opv_move (v := v) rfl) ?_; refine Wo rfl (opv_len Tryz.underlying22 rfl h) ?_; refine Wo rfl (opv_lss rfl rfl) ?_; refine Wo_nil ?_; refine W_cond_dec rfl (fun h3 => ?_) (fun h3 => ?_); refine W_skip ?_
          refine W_seq ?_; refine W_block ?_; refine W_seq ?_; refine W_region rfl ?_; refine Wo rfl (opv_move (v := um) rfl) ?_; refine Wo rfl (opv_move (v := .int _ _) rfl) ?_
          refine Wo_get Tryz.underlying22 Tryz.sizeOf58 Tryz.isAgg58 rfl (fun _ => rfl) rfl rM E4 rfl (by first | omega | (simp <;> omega)) ?_; rintro _ u2 hu1; refine Wo rfl (opv_move (v := .int _ _) rfl) ?_
          refine Wo_get Tryz.underlying58 Tryz.sizeOf3 Tryz.isAgg3 rfl (fun _ => rfl) rfl hu1 E4 rfl (by first | omega | (simp <;> omega)) ?_; rintro _ _ rfl; refine Wo rfl (opv_eql rfl rfl) ?_; refine Wo_nil ?_
          refine W_cond_dec rfl (fun h4 => ?_) (fun h4 => ?_); (exfalso; omega); refine W_skip ?_; refine W_region rfl ?_; refine Wo rfl (opv_move (v := .int _ _) rfl) ?_; refine Wo rfl (opv_add rfl rfl (by omega)) ?_
          refine Wo rfl (opv_assign (v := .int _ _) rfl) ?_; refine Wo_nil ?_; rotate_left; (exfalso; omega)
        refine ⟨(j + 1), by repeat (first | exact trivial | refine And.intro rfl ?_), by repeat (first | with_reducible exact Same.refl | refine Same.upd rfl ?_ | refine Same.upds rfl ?_ | refine Same.mix rfl ?_), ?_, ?_⟩
        · exact ⟨rfl, by omega⟩
        · omega
      · obtain rfl : j = knd p k := by omega
        have h1 : ((matV p (bsm p p.length))[k]'(by omega))[knd p k]'(by omega) = 1 := by rw [hma, show bsm p p.length k (knd p k) = true from g2]; rfl
        focus
          have szE4 := E4.size; have szE3 := E3.size; have szE2 := E2.size; have szE1 := E1.size; refine W_seq ?_; refine W_seq ?_; refine W_region rfl ?_; refine Wo rfl (opv_move (v := .int _ _) rfl) ?_
          refine Wo rfl (opv_move (v := v) rfl) ?_; refine Wo rfl (opv_len Tryz.underlying22 rfl h) ?_; refine Wo rfl (opv_lss rfl rfl) ?_; refine Wo_nil ?_; refine W_cond_dec rfl (fun h3 => ?_) (fun h3 => ?_); refine W_skip ?_
          refine W_seq ?_; refine W_block ?_; refine W_seq ?_; refine W_region rfl ?_; refine Wo rfl (opv_move (v := um) rfl) ?_; refine Wo rfl (opv_move (v := .int _ _) rfl) ?_
          refine Wo_get Tryz.underlying22 Tryz.sizeOf58 Tryz.isAgg58 rfl (fun _ => rfl) rfl rM E4 rfl (by first | omega | (simp <;> omega)) ?_; rintro _ u2 hu1; refine Wo rfl (opv_move (v := .int _ _) rfl) ?_
          refine Wo_get Tryz.underlying58 Tryz.sizeOf3 Tryz.isAgg3 rfl (fun _ => rfl) rfl hu1 E4 rfl (by first | omega | (simp <;> omega)) ?_; rintro _ _ rfl; refine Wo rfl (opv_eql rfl rfl) ?_; refine Wo_nil ?_
          refine W_cond_dec rfl (fun h4 => ?_) (fun h4 => ?_); refine W_seq ?_; refine W_region rfl ?_; refine Wo rfl (opv_move (v := uk) rfl) ?_; refine Wo rfl (opv_move (v := .int _ _) rfl) ?_
          refine Wo_buildSliceH (ps := [(0, .int _ _)]) (cs := [_]) rfl Tryz.underlying58 Tryz.sizeOf3 Tryz.zeroValue3 rfl rfl rfl rfl ?_; rintro b2 w4 hb2 E5 hB1 hHb2; have hlb2 := hB1.lt; have hs3 := E5.size
          refine Wo_app1 rfl el58 rfl rfl hB1 (hO1.toB.ext E5) Owned.int (Nat.le_refl _) (by first | omega | (simp <;> omega)) (by omega) (by omega) ((E2.trans E4).trans E5) (by omega) ?_; have hT1 := (hO1.toB.ext E5); rintro v1 w6 hO1 E6 M1
          have E7 := M1.ext hT1 (E4.trans E5) (by omega); have szE7 := E7.size; have hB1 := hB1.moves M1 hT1 (by omega); have hs4 := E6.size; refine Wo rfl (opv_assign (v := v1) rfl) ?_; refine Wo_nil ?_; refine W_exit ?_
          refine exitX_other rfl ?_; refine exitX_same ?_; refine W_region rfl ?_; refine Wo rfl (opv_move (v := .int _ _) rfl) ?_; refine Wo rfl (opv_add rfl rfl (by omega)) ?_; refine Wo rfl (opv_assign (v := .int _ _) rfl) ?_
          refine Wo_nil ?_; rotate_left; contradiction; (exfalso; omega)
        refine ⟨((k + 1, v1)), by repeat (first | exact trivial | refine And.intro rfl ?_), by repeat (first | with_reducible exact Same.refl | refine Same.upd rfl ?_ | refine Same.upds rfl ?_ | refine Same.mix rfl ?_), ?_, ?_⟩
        · refine ⟨by exact E7, by omega, ?_⟩
          rw [take_snoc _ _ (by omega), ikndL_at]
          exact hO1
        · simp only; omega
    · obtain rfl : k = p.length := by omega
      rw [List.take_of_length_le (by omega)] at hO1
      have rK := hO1.read
      clear hO1
      focus
        have szE4 := E4.size; have szE3 := E3.size; have szE2 := E2.size; have szE1 := E1.size; refine W_seq ?_; refine W_seq ?_; refine W_region rfl ?_; refine Wo rfl (opv_move (v := .int _ _) rfl) ?_
        refine Wo rfl (opv_move (v := v) rfl) ?_; refine Wo rfl (opv_len Tryz.underlying22 rfl h) ?_; refine Wo rfl (opv_lss rfl rfl) ?_; refine Wo_nil ?_; refine W_cond_dec rfl (fun h2 => ?_) (fun h2 => ?_); contradiction; refine W_exit ?_
        refine exitX_same ?_; refine W_seq ?_; refine W_region rfl ?_; refine Wo_buildSliceH (ps := [(0, .int _ _)]) (cs := [_]) rfl Tryz.underlying58 Tryz.sizeOf3 Tryz.zeroValue3 rfl rfl rfl rfl ?_; rintro b2 w5 hb2 E5 hB1 hHb2
        have hlb2 := hB1.lt; have hs3 := E5.size; refine Wo rfl (opv_assign (v := .slice _ _ _) rfl) ?_; refine Wo_nil ?_; refine W_seq ?_; refine W_seq ?_; refine W_region rfl ?_; refine Wo rfl (opv_assign (v := .int _ _) rfl) ?_
        refine Wo_nil ?_; refine W_block ?_
      have hO2 : Owned w4.heap.size XI w5 (.slice (some ⟨b2, 0, none⟩) 1 1) (ints [0]) := Owned.block hHb2 hb2 rfl (by decide) ⟨⟨rfl, rfl⟩, trivial⟩
      clear hHb2 hB1
      refine W_loop [9, 10, 11, 12, 13, 52, 53, 54, 55, 56, 57, 58, 59, 60, 61, 62, 63, 64, 65, 66, 67, 68, 69, 70, 71, 72, 73, 74, 75, 76, 77, 78, 79, 80, 81, 82, 83, 84, 85, 86, 87, 88, 89, 90, 91, 92, 93, 94, 95, 96, 97, 98, 99, 100] (fun ((t, u, L) : Nat × Value × List Nat) => [(10, .int .i64 (t : Nat)), (9, u)]) (fun (t, u, L) w' => Ext w4 w' ∧ Owned w4.heap.size XI w' u (ints L) ∧ Wlk p L ∧ t ≤ L.length ∧ ∀ x ∈ L.take t, ∀ j ∈ arr p x, knd p j ∈ L.map (knd p)) (fun x => p.length - x.1) (0, .slice (some ⟨b2, 0, none⟩) 1 1, [0]) (by repeat (first | exact trivial | refine And.intro rfl ?_)) ?_ ?_
      · exact ⟨by exact E5, hO2, Wlk.zero, Nat.zero_le _, by simp⟩
      clear hO2
      rintro ⟨t, u, L⟩ ρl w6 ⟨E6, hO2, hW, ht, hcl⟩
      have hLl := hW.len hp
      have hLil := ints_len L
      by_cases htl : t < L.length
      · obtain ⟨X, hX⟩ : ∃ X, X = L[t] := ⟨_, rfl⟩
        have hXl : X < p.length := hX ▸ hW.lt hp (List.getElem_mem htl)
        have hrow := hp.row hXl
        focus
          have szE6 := E6.size; have szE5 := E5.size; have szE4 := E4.size; have szE3 := E3.size; have szE2 := E2.size; have szE1 := E1.size; refine W_seq ?_; refine W_seq ?_; refine W_region rfl ?_
          refine Wo rfl (opv_move (v := .int _ _) rfl) ?_; refine Wo rfl (opv_move (v := u) rfl) ?_; refine Wo rfl (opv_len Tryz.underlying58 rfl (Owned.read hO2)) ?_; refine Wo rfl (opv_lss rfl rfl) ?_; refine Wo_nil ?_
          refine W_cond_dec rfl (fun h3 => ?_) (fun h3 => ?_); refine W_skip ?_; refine W_seq ?_; refine W_block ?_; refine W_seq ?_; refine W_region rfl ?_; refine Wo rfl (opv_assign (v := .int _ _) rfl) ?_; refine Wo_nil ?_
          refine W_block ?_; rotate_left; (exfalso; omega)
        refine W_loop [9, 11, 12, 13, 58, 59, 60, 61, 62, 63, 64, 65, 66, 67, 68, 69, 70, 71, 72, 73, 74, 75, 76, 77, 78, 79, 80, 81, 82, 83, 84, 85, 86, 87, 88, 89, 90, 91, 92, 93, 94, 95, 96, 97, 98, 99, 100] (fun ((j, u, L') : Nat × Value × List Nat) => [(11, .int .i64 (j : Nat)), (9, u)]) (fun (j, u, L') w' => Ext w4 w' ∧ j ≤ p.length ∧ Owned w4.heap.size XI w' u (ints L') ∧ Wlk p L' ∧ (∃ e, L' = L ++ e) ∧ ∀ j' ∈ arr p X, j' < j → knd p j' ∈ L'.map (knd p)) (fun x => p.length - x.1) (0, u, L) (by repeat (first | exact trivial | refine And.intro rfl ?_)) ?_ ?_
        · exact ⟨by exact E6, Nat.zero_le _, hO2, hW, ⟨[], by simp⟩, fun j' _ h => by omega⟩
        clear hO2
        rintro ⟨j, u', L'⟩ ρm w7 ⟨E7, hj, hO2, hW', ⟨e, he⟩, hcl'⟩
        have hLl' := hW'.len hp
        have hLil' := ints_len L'
        have htl' : t < L'.length := by rw [he]; simp; omega
        have hXt : L'[t] = X := by simp only [he]; rw [List.getElem_append_left htl, hX]
        have hXm : X ∈ L' := hXt ▸ List.getElem_mem htl'
        have hgt : (ints L')[t]'(by omega) = (X : Int) := by rw [ints_get htl', hXt]
        by_cases hjl : j < p.length
        · have hgX : (p[((ints L')[t]'(by omega)).toNat]'(by rw [hgt]; omega)) = p[X] := by simp only [hgt, Int.toNat_natCast]
          have hgXl : (p[((ints L')[t]'(by omega)).toNat]'(by rw [hgt]; omega)).length = p.length := by rw [hgX]; exact hrow
          have hgXj : (p[((ints L')[t]'(by omega)).toNat]'(by rw [hgt]; omega))[j]'(by omega) = p[X][j] := by simp only [hgt, Int.toNat_natCast]
          have harX : j ∈ arr p X ↔ p[X][j] = 1 := by
            rw [mem_arr hp hXl]; unfold bit; rw [getD_lt hXl, getD_lt (show j < p[X].length by omega)]
            exact ⟨fun h => h.2, fun h => ⟨hjl, h⟩⟩
          focus
            have szE7 := E7.size; have szE6 := E6.size; have szE5 := E5.size; have szE4 := E4.size; have szE3 := E3.size; have szE2 := E2.size; have szE1 := E1.size; refine W_seq ?_; refine W_seq ?_; refine W_region rfl ?_
            refine Wo rfl (opv_move (v := .int _ _) rfl) ?_; refine Wo rfl (opv_move (v := v) rfl) ?_; refine Wo rfl (opv_len Tryz.underlying22 rfl h) ?_; refine Wo rfl (opv_lss rfl rfl) ?_; refine Wo_nil ?_
            refine W_cond_dec rfl (fun h4 => ?_) (fun h4 => ?_); refine W_skip ?_; refine W_seq ?_; refine W_block ?_; refine W_seq ?_; refine W_region rfl ?_; refine Wo rfl (opv_move (v := v) rfl) ?_; refine Wo rfl (opv_move (v := u') rfl) ?_
            refine Wo rfl (opv_move (v := .int _ _) rfl) ?_; refine Wo_get Tryz.underlying58 Tryz.sizeOf3 Tryz.isAgg3 rfl (fun _ => rfl) rfl (Owned.read hO2) (Ext.refl _) rfl (by first | omega | (simp <;> omega)) ?_; rintro _ _ rfl
            refine Wo_get_z Tryz.underlying22 Tryz.sizeOf58 Tryz.isAgg58 rfl (fun _ => rfl) rfl h ((E2.trans E4).trans E7) rfl (by first | omega | (simp <;> omega)) ?_; rintro _ u2 hu1; refine Wo rfl (opv_move (v := .int _ _) rfl) ?_
            refine Wo_get Tryz.underlying58 Tryz.sizeOf3 Tryz.isAgg3 rfl (fun _ => rfl) rfl hu1 ((E2.trans E4).trans E7) rfl (by first | omega | (simp <;> omega)) ?_; rintro _ _ rfl; refine Wo rfl (opv_eql rfl rfl) ?_
            refine Wo rfl (opv_assign (v := .bool _) rfl) ?_; refine Wo_nil ?_; refine W_seq ?_; refine W_seq ?_; refine W_region rfl ?_; refine Wo rfl (opv_assign (v := .int _ _) rfl) ?_; refine Wo_nil ?_; refine W_block ?_; rotate_left
            (exfalso; omega)
          refine W_loop [12, 13, 75, 76, 77, 78, 79, 80, 81, 82, 83, 84, 85, 86, 87, 88, 89, 90, 91, 92, 93, 94, 95] (fun ((m, f) : Nat × Bool) => [(13, .int .i64 (m : Nat)), (12, .bool f)]) (fun (m, f) w' => Ext w7 w' ∧ m ≤ L'.length ∧ (f = true ↔ j ∈ arr p X ∧ knd p j ∉ (L'.take m).map (knd p))) (fun x => L'.length - x.1) (0, decide ((p[((ints L')[t]'(by omega)).toNat]'(by rw [hgt]; omega))[j]'(by omega) = 1)) (by repeat (first | exact trivial | refine And.intro rfl ?_)) ?_ ?_
          · refine ⟨Ext.refl _, Nat.zero_le _, ?_⟩
            rw [decide_eq_true_iff, hgXj, harX]; simp
          rintro ⟨m, f⟩ ρn w9 ⟨E9, hm, hf⟩
          by_cases hml2 : m < L'.length
          · have hLm := hW'.lt hp (List.getElem_mem hml2)
            have hgm : (ints L')[m]'(by omega) = (L'[m] : Int) := ints_get hml2
            have hkm : (ints (kndL p))[((ints L')[m]'(by omega)).toNat]'(by rw [hgm, hkl]; omega) = (knd p L'[m] : Int) := by
              simp only [hgm, Int.toNat_natCast]; exact ikndL_at _
            have hkj : (ints (kndL p))[j]'(by omega) = (knd p j : Int) := ikndL_at _
            have hts := take_snoc _ _ hml2
            have bm : ((ints L')[m]'(by omega)).toNat < (ints (kndL p)).length := by rw [hkl, hgm]; omega
            cases f
            · focus
                have szE9 := E9.size; have szE7 := E7.size; have szE6 := E6.size; have szE5 := E5.size; have szE4 := E4.size; have szE3 := E3.size; have szE2 := E2.size; have szE1 := E1.size; refine W_seq ?_; refine W_seq ?_; refine W_region rfl ?_
                refine Wo rfl (opv_move (v := .int _ _) rfl) ?_; refine Wo rfl (opv_move (v := u') rfl) ?_; refine Wo rfl (opv_len Tryz.underlying58 rfl (Owned.read hO2)) ?_; refine Wo rfl (opv_lss rfl rfl) ?_; refine Wo_nil ?_
                refine W_cond_dec rfl (fun h5 => ?_) (fun h5 => ?_); refine W_skip ?_; refine W_seq ?_; refine W_block ?_; refine W_draw mixed (by kernel_rfl) rfl ?_; refine Wq_o rfl (fun _ _ => opv_move (v := .bool _) rfl) ?_
                refine Wq_o rfl (fun _ _ => opv_move (v := .bool _) rfl) ?_; refine Wq_skip rfl ?_; refine Wq_skip rfl ?_; refine Wq_skip rfl ?_; refine Wq_skip rfl ?_; refine Wq_skip rfl ?_; refine Wq_skip rfl ?_; refine Wq_skip rfl ?_
                refine Wq_skip rfl ?_; refine Wq_skip rfl ?_; refine Wq_skip rfl ?_; refine Wq_skip rfl ?_; refine Wq_skip rfl ?_; refine Wq_o rfl (fun _ _ => opv_pick_f (v := .bool _) rfl rfl) ?_
                refine Wq_o rfl (fun _ _ => opv_assign (v := .bool _) rfl) ?_; refine Wq_nil (fun w8 E8 => ?_); have hs4 := E8.size; refine W_region rfl ?_; refine Wo rfl (opv_move (v := .int _ _) rfl) ?_
                refine Wo rfl (opv_add rfl rfl (by omega)) ?_; refine Wo rfl (opv_assign (v := .int _ _) rfl) ?_; refine Wo_nil ?_; rotate_left; (exfalso; omega)
              refine ⟨((m + 1, false)), by repeat (first | exact trivial | refine And.intro rfl ?_), by repeat (first | with_reducible exact Same.refl | refine Same.upd rfl ?_ | refine Same.upds rfl ?_ | refine Same.mix rfl ?_), ?_, ?_⟩
              · refine ⟨by exact (E9.trans E8), by omega, ⟨fun h => (by cases h), fun h => ?_⟩⟩
                rw [hts, List.map_append, List.mem_append, not_or] at h
                exact absurd (hf.2 ⟨h.1, h.2.1⟩) (by simp)
              · simp only; omega
            · focus
                have szE9 := E9.size; have szE7 := E7.size; have szE6 := E6.size; have szE5 := E5.size; have szE4 := E4.size; have szE3 := E3.size; have szE2 := E2.size; have szE1 := E1.size; refine W_seq ?_; refine W_seq ?_; refine W_region rfl ?_
                refine Wo rfl (opv_move (v := .int _ _) rfl) ?_; refine Wo rfl (opv_move (v := u') rfl) ?_; refine Wo rfl (opv_len Tryz.underlying58 rfl (Owned.read hO2)) ?_; refine Wo rfl (opv_lss rfl rfl) ?_; refine Wo_nil ?_
                refine W_cond_dec rfl (fun h5 => ?_) (fun h5 => ?_); refine W_skip ?_; refine W_seq ?_; refine W_block ?_; refine W_draw mixed (by kernel_rfl) rfl ?_; refine Wq_o rfl (fun _ _ => opv_move (v := .bool _) rfl) ?_
                refine Wq_o rfl (fun _ _ => opv_move (v := .bool _) rfl) ?_; refine Wq_o rfl (fun _ _ => opv_move (v := uk) rfl) ?_; refine Wq_o rfl (fun _ _ => opv_move (v := u') rfl) ?_
                refine Wq_o rfl (fun _ _ => opv_move (v := .int _ _) rfl) ?_; refine Wq_get Tryz.underlying58 Tryz.sizeOf3 Tryz.isAgg3 rfl (fun _ => rfl) rfl (Owned.read hO2) E9 rfl (by first | omega | (simp <;> omega)) ?_; rintro _ _ rfl
                refine Wq_get_z Tryz.underlying58 Tryz.sizeOf3 Tryz.isAgg3 rfl (fun _ => rfl) rfl rK (E7.trans E9) rfl (by first | omega | (simp <;> omega)) ?_; rintro _ _ rfl; refine Wq_o rfl (fun _ _ => opv_move (v := uk) rfl) ?_
                refine Wq_o rfl (fun _ _ => opv_move (v := .int _ _) rfl) ?_; refine Wq_get Tryz.underlying58 Tryz.sizeOf3 Tryz.isAgg3 rfl (fun _ => rfl) rfl rK (E7.trans E9) rfl (by first | omega | (simp <;> omega)) ?_; rintro _ _ rfl
                refine Wq_o rfl (fun _ _ => opv_neq rfl rfl) ?_; refine Wq_o rfl (fun _ _ => opv_pick_t (v := .bool _) rfl rfl) ?_; refine Wq_o rfl (fun _ _ => opv_assign (v := .bool _) rfl) ?_; refine Wq_nil (fun w8 E8 => ?_); have hs4 := E8.size
                refine W_region rfl ?_; refine Wo rfl (opv_move (v := .int _ _) rfl) ?_; refine Wo rfl (opv_add rfl rfl (by omega)) ?_; refine Wo rfl (opv_assign (v := .int _ _) rfl) ?_; refine Wo_nil ?_; rotate_left; (exfalso; omega)
              refine ⟨((m + 1, !decide ((ints (kndL p))[((ints L')[m]'(by omega)).toNat]'bm = (ints (kndL p))[j]'(by omega)))), by repeat (first | exact trivial | refine And.intro rfl ?_), by repeat (first | with_reducible exact Same.refl | refine Same.upd rfl ?_ | refine Same.upds rfl ?_ | refine Same.mix rfl ?_), ?_, ?_⟩
              · refine ⟨by exact (E9.trans E8), by omega, ?_⟩
                rw [hkm, hkj, hts, List.map_append, List.mem_append, not_or]
                have hf' := hf.1 rfl
                simp only [List.map_cons, List.map_nil, List.mem_singleton, Bool.not_eq_true', decide_eq_false_iff_not]
                constructor
                · intro h; exact ⟨hf'.1, hf'.2, fun e => h (by rw [e])⟩
                · intro h e; exact h.2.2 (by omega)
              · simp only; omega
          · obtain rfl : m = L'.length := by omega
            rw [List.take_length] at hf
            cases f
            · focus
                have szE9 := E9.size; have szE7 := E7.size; have szE6 := E6.size; have szE5 := E5.size; have szE4 := E4.size; have szE3 := E3.size; have szE2 := E2.size; have szE1 := E1.size; refine W_seq ?_; refine W_seq ?_; refine W_region rfl ?_
                refine Wo rfl (opv_move (v := .int _ _) rfl) ?_; refine Wo rfl (opv_move (v := u') rfl) ?_; refine Wo rfl (opv_len Tryz.underlying58 rfl (Owned.read hO2)) ?_; refine Wo rfl (opv_lss rfl rfl) ?_; refine Wo_nil ?_
                refine W_cond_dec rfl (fun h5 => ?_) (fun h5 => ?_); (exfalso; omega); refine W_exit ?_; refine exitX_same ?_; refine W_seq ?_; refine W_region rfl ?_; refine Wo rfl (opv_move (v := .bool _) rfl) ?_; refine Wo_nil ?_
                refine W_cond_false rfl ?_; refine W_skip ?_; refine W_region rfl ?_; refine Wo rfl (opv_move (v := .int _ _) rfl) ?_; refine Wo rfl (opv_add rfl rfl (by omega)) ?_; refine Wo rfl (opv_assign (v := .int _ _) rfl) ?_
                refine Wo_nil ?_
              refine ⟨((j + 1, u', L')), by repeat (first | exact trivial | refine And.intro rfl ?_), by repeat (first | with_reducible exact Same.refl | refine Same.upd rfl ?_ | refine Same.upds rfl ?_ | refine Same.mix rfl ?_), ?_, ?_⟩
              · refine ⟨by exact (E7.trans E9), by omega, by exact (Mono.mono E9 hO2), hW', ⟨e, he⟩, fun j' h1 h2 => ?_⟩
                rcases Nat.lt_or_ge j' j with h3 | h3
                · exact hcl' j' h1 h3
                · obtain rfl : j' = j := by omega
                  exact Classical.byContradiction fun h => absurd (hf.2 ⟨h1, h⟩) (by simp)
              · simp only; omega
            · obtain ⟨hf1, hf2⟩ := hf.1 rfl
              focus
                have szE9 := E9.size; have szE7 := E7.size; have szE6 := E6.size; have szE5 := E5.size; have szE4 := E4.size; have szE3 := E3.size; have szE2 := E2.size; have szE1 := E1.size; refine W_seq ?_; refine W_seq ?_; refine W_region rfl ?_
                refine Wo rfl (opv_move (v := .int _ _) rfl) ?_; refine Wo rfl (opv_move (v := u') rfl) ?_; refine Wo rfl (opv_len Tryz.underlying58 rfl (Owned.read hO2)) ?_; refine Wo rfl (opv_lss rfl rfl) ?_; refine Wo_nil ?_
                refine W_cond_dec rfl (fun h5 => ?_) (fun h5 => ?_); (exfalso; omega); refine W_exit ?_; refine exitX_same ?_; refine W_seq ?_; refine W_region rfl ?_; refine Wo rfl (opv_move (v := .bool _) rfl) ?_; refine Wo_nil ?_
                refine W_cond_true rfl ?_; refine W_region rfl ?_; refine Wo rfl (opv_move (v := u') rfl) ?_; refine Wo rfl (opv_move (v := .int _ _) rfl) ?_
                refine Wo_buildSliceH (ps := [(0, .int _ _)]) (cs := [_]) rfl Tryz.underlying58 Tryz.sizeOf3 Tryz.zeroValue3 rfl rfl rfl rfl ?_; rintro b3 w8 hb3 E8 hB1 hHb3; have hlb3 := hB1.lt; have hs4 := E8.size
                refine Wo_app1 rfl el58 rfl rfl hB1 (hO2.toB.ext (E9.trans E8)) Owned.int (Nat.le_refl _) (by first | omega | (simp <;> omega)) (by omega) (by omega) ((((E2.trans E4).trans E7).trans E9).trans E8) (by omega) ?_
                have hT1 := (hO2.toB.ext (E9.trans E8)); rintro v1 w10 hO2 E10 M1; have E11 := M1.ext hT1 (((E4.trans E7).trans E9).trans E8) (by omega); have szE11 := E11.size; have E12 := M1.ext hT1 ((E7.trans E9).trans E8) (by omega)
                have szE12 := E12.size; have hB1 := hB1.moves M1 hT1 (by omega); have hs5 := E10.size; refine Wo rfl (opv_assign (v := v1) rfl) ?_; refine Wo_nil ?_; refine W_region rfl ?_; refine Wo rfl (opv_move (v := .int _ _) rfl) ?_
                refine Wo rfl (opv_add rfl rfl (by omega)) ?_; refine Wo rfl (opv_assign (v := .int _ _) rfl) ?_; refine Wo_nil ?_
              refine ⟨((j + 1, v1, L' ++ [j])), by repeat (first | exact trivial | refine And.intro rfl ?_), by repeat (first | with_reducible exact Same.refl | refine Same.upd rfl ?_ | refine Same.upds rfl ?_ | refine Same.mix rfl ?_), ?_, ?_⟩
              · refine ⟨by exact E12, by omega, ?_, hW'.step hXm hf1 hf2, ⟨e ++ [j], by rw [he, List.append_assoc]⟩, fun j' h1 h2 => ?_⟩
                · rw [ints_append]; assumption
                · rw [List.map_append, List.mem_append]
                  rcases Nat.lt_or_ge j' j with h3 | h3
                  · exact .inl (hcl' j' h1 h3)
                  · obtain rfl : j' = j := by omega
                    exact .inr (by simp)
              · simp only; omega
        · obtain rfl : j = p.length := by omega
          focus
            have szE7 := E7.size; have szE6 := E6.size; have szE5 := E5.size; have szE4 := E4.size; have szE3 := E3.size; have szE2 := E2.size; have szE1 := E1.size; refine W_seq ?_; refine W_seq ?_; refine W_region rfl ?_
            refine Wo rfl (opv_move (v := .int _ _) rfl) ?_; refine Wo rfl (opv_move (v := v) rfl) ?_; refine Wo rfl (opv_len Tryz.underlying22 rfl h) ?_; refine Wo rfl (opv_lss rfl rfl) ?_; refine Wo_nil ?_
            refine W_cond_dec rfl (fun h4 => ?_) (fun h4 => ?_); contradiction; refine W_exit ?_; refine exitX_same ?_; refine W_region rfl ?_; refine Wo rfl (opv_move (v := .int _ _) rfl) ?_; refine Wo rfl (opv_add rfl rfl (by omega)) ?_
            refine Wo rfl (opv_assign (v := .int _ _) rfl) ?_; refine Wo_nil ?_
          refine ⟨((t + 1, u', L')), by repeat (first | exact trivial | refine And.intro rfl ?_), by repeat (first | with_reducible exact Same.refl | refine Same.upd rfl ?_ | refine Same.upds rfl ?_ | refine Same.mix rfl ?_), ?_, ?_⟩
          · refine ⟨by exact E7, by exact hO2, hW', by omega, fun x hx j' hj' => ?_⟩
            rw [take_snoc _ _ htl'] at hx
            rcases List.mem_append.1 hx with hx | hx
            · have hx2 : x ∈ L.take t := by rw [he, List.take_append_of_le_length (by omega)] at hx; exact hx
              have := hcl x hx2 j' hj'
              rw [he, List.map_append]
              exact List.mem_append_left _ this
            · rw [List.mem_singleton.1 hx, hXt] at hj'
              exact hcl' j' hj' (arr_lt hp hXl hj')
          · simp only; omega
      · obtain rfl : t = L.length := by omega
        rw [List.take_length] at hcl
        have hKds := hW.kds hp hcl
        have hLlt : ∀ x ∈ L, x < p.length := fun x hx => hW.lt hp hx
        have hC : Cand p 0 (qp p (L.map (knd p))) := ⟨_, hKds, rfl⟩
        have hcl2 : (qp p (L.map (knd p))).length = L.length := by rw [qp_len, List.length_map]
        have hll := lst_len hp hp1 hC
        rw [hcl2] at hll
        by_cases h5 : L.length ≤ 5
        · have h5' : (lst p 0).length ≤ 5 := by omega
          have hPc := hC.pic hp hp1 (by omega)
          have k4 : ∀ (w : World) (v u t : Value), ESl Ints w v p → Ints w u (ints (kndL p)) → Ints w t (ints L) → Does Tryz.prog 80 [v, u, t] w (RetO w XR (qp p (L.map (knd p)))) := fun w v u t h1 h2 h3 => by
            rw [← ptV_qp hp hLlt]
            refine l4Part_ok w v u t p _ _ h1 h2 h3 hp hkl (fun x hx => ?_) (by rw [ints_len]; omega)
            obtain ⟨y, hy, rfl⟩ := List.mem_map.1 hx
            have := hLlt y hy
            omega
          have k5 : ∀ (w : World) (v : Value), ESl Ints w v (qp p (L.map (knd p))) → Does Tryz.prog 32 [v, .int .i64 0] w (RetO w XR (lst p 0)) := fun w v h => by
            have := LeastOf_ok w v _ h 0
            rw [if_pos ⟨hPc, by decide, by have := hPc.1; omega⟩] at this
            rw [(lst_same hp (hC.gr hp hp1) hp1 hPc.1).2 (hC.bis hp hp1)]
            exact this
          rw [if_pos h5', decide_eq_true h5']
          focus
            have szE6 := E6.size; have szE5 := E5.size; have szE4 := E4.size; have szE3 := E3.size; have szE2 := E2.size; have szE1 := E1.size; refine W_seq ?_; refine W_seq ?_; refine W_region rfl ?_
            refine Wo rfl (opv_move (v := .int _ _) rfl) ?_; refine Wo rfl (opv_move (v := u) rfl) ?_; refine Wo rfl (opv_len Tryz.underlying58 rfl (Owned.read hO2)) ?_; refine Wo rfl (opv_lss rfl rfl) ?_; refine Wo_nil ?_
            refine W_cond_dec rfl (fun h3 => ?_) (fun h3 => ?_); (exfalso; omega); refine W_exit ?_; refine exitX_same ?_; refine W_seq ?_; refine W_seq ?_; refine W_region rfl ?_; refine Wo rfl (opv_move (v := u) rfl) ?_
            refine Wo rfl (opv_len Tryz.underlying58 rfl (Owned.read hO2)) ?_; refine Wo rfl (opv_gtr rfl rfl) ?_; refine Wo_nil ?_; refine W_cond_dec rfl (fun h4 => ?_) (fun h4 => ?_); (exfalso; omega); refine W_skip ?_; refine W_seq ?_
            refine W_region rfl ?_; refine Wo rfl (opv_move (v := v) rfl) ?_; refine Wo rfl (opv_move (v := uk) rfl) ?_; refine Wo rfl (opv_move (v := u) rfl) ?_
            refine Wo_call rfl (opc3 (a := v) (b := uk) (c := u) Tryz.call80 rfl rfl rfl) (k4 _ _ _ _ ((Mono.mono ((E2.trans E4).trans E6) h)) ((Mono.mono E6 rK)) ((Owned.read hO2))) ?_; rintro u2 w7 ⟨E7, hO1⟩; have hs4 := E7.size
            refine Wo_call rfl (opc2 (a := u2) (b := .int _ _) Tryz.call32 rfl rfl) (k5 _ _ ((Owned.read hO1))) ?_; rintro u3 w8 ⟨E8, hO3⟩; have hs5 := E8.size; refine Wo rfl (opv_assign (v := u3) rfl) ?_
            refine Wo rfl (opv_assign (v := .bool _) rfl) ?_; refine Wo_nil ?_; refine W_ret ?_; refine at_ret (v := .tuple #[u3, .bool _]) rfl ?_; exact ⟨_, rfl, ((((E2.trans E4).trans E6).trans E7).trans E8), hO3.toB.o.mono (by omega)⟩
        · have h5' : ¬ (lst p 0).length ≤ 5 := by omega
          rw [if_neg h5', decide_eq_false h5']
          focus
            have szE6 := E6.size; have szE5 := E5.size; have szE4 := E4.size; have szE3 := E3.size; have szE2 := E2.size; have szE1 := E1.size; refine W_seq ?_; refine W_seq ?_; refine W_region rfl ?_
            refine Wo rfl (opv_move (v := .int _ _) rfl) ?_; refine Wo rfl (opv_move (v := u) rfl) ?_; refine Wo rfl (opv_len Tryz.underlying58 rfl (Owned.read hO2)) ?_; refine Wo rfl (opv_lss rfl rfl) ?_; refine Wo_nil ?_
            refine W_cond_dec rfl (fun h3 => ?_) (fun h3 => ?_); (exfalso; omega); refine W_exit ?_; refine exitX_same ?_; refine W_seq ?_; refine W_seq ?_; refine W_region rfl ?_; refine Wo rfl (opv_move (v := u) rfl) ?_
            refine Wo rfl (opv_len Tryz.underlying58 rfl (Owned.read hO2)) ?_; refine Wo rfl (opv_gtr rfl rfl) ?_; refine Wo_nil ?_; refine W_cond_dec rfl (fun h4 => ?_) (fun h4 => ?_); refine W_seq ?_; refine W_region rfl ?_
            refine Wo_lit0 (XSl 3 XInt) rfl el22 Tryz.sizeOf58 ?_; rintro b3 w7 hb3 b3lt E7 hO1; have hs4 := E7.size; refine Wo rfl (opv_assign (v := .slice _ _ _) rfl) ?_; refine Wo rfl (opv_assign (v := .bool _) rfl) ?_; refine Wo_nil ?_
            refine W_ret ?_; refine at_ret (v := .tuple #[.slice _ _ _, .bool _]) rfl ?_; exact ⟨_, rfl, (((E2.trans E4).trans E6).trans E7), hO1.toB.o.mono (by omega)⟩; (exfalso; omega)

end Go.Proofs.YtgphoihilheoeaaGreatDoor
set_option linter.unusedVariables false
set_option linter.unusedSimpArgs false
namespace Go.Hs
open Classical
section
variable {p q g : List (List Int)} {a b n k x : Nat} {ms ms' : List Nat}
/-- the list that an option stands for -/
def og (o : Option (List (List Int))) : List (List Int) := o.getD []
theorem putV_og : og (putV g ms) = if (lst (put g ms) 0).length ≤ 5 then lst (put g ms) 0 else [] := by
  unfold putV og; split <;> rfl
theorem putV_is : (putV g ms).isSome = decide ((lst (put g ms) 0).length ≤ 5) := by
  unfold putV; split
  · rename_i h; simp [h]
  · rename_i h; simp [h]
theorem putV_congr (h : ∀ j, j ∈ ms ↔ j ∈ ms') : putV g ms = putV g ms' := by unfold putV; rw [put_congr h]
theorem togV_eq (hp : Gr p) (hq : Gr q) (ha : a < p.length) (hb : b < q.length) : togV p a q b = putV (bes p q) (arr p a ++ (arr q b).map (p.length + ·)) := by
  unfold togV
  refine putV_congr fun j => ?_
  rw [List.mem_append, List.mem_append, arr_bes1 hp ha, arr_bes2 hq hb, List.mem_map]
  exact ⟨fun h => h.imp id fun ⟨k, h1, h2⟩ => ⟨k, h1, h2.symm⟩, fun h => h.imp id fun ⟨k, h1, h2⟩ => ⟨k, h1, h2.symm⟩⟩
theorem wosV_eq : wosV p a q b = putV (bes p []) ((arr p a).filter (fun v => !decide (Bis p v q b)) ++ ([] : List Nat).map (p.length + ·)) := by
  unfold wosV; rw [bes_nil, List.map_nil, List.append_nil]
theorem arr_le (hp : Gr p) (ha : a < p.length) : (arr p a).length ≤ p.length := by
  have h := arrR_len (p.getD a [])
  rw [getD_lt ha, hp.row ha, ← getD_lt (d := []) ha] at h
  exact h
end
end Go.Hs
namespace Go.Proofs.YtgphoihilheoeaaGreatDoor
open Go.Hs
set_option maxRecDepth 10000
set_option maxHeartbeats 4000000
set_option linter.unusedVariables false
set_option linter.unusedSimpArgs false

theorem l6Least_put (w : World) (v : Value) (g : List (List Int)) (ms : List Nat) (h : ESl Ints w v (put g ms)) (hg : Gr g) (hn : g.length ≤ 10) :
    Does Tryz.prog 107 [v] w (RetOB w XR (og (putV g ms)) (putV g ms).isSome) := by
  rw [putV_og, putV_is]
  exact l6Least_ok w v _ h (put_gr hg hn)

theorem PairOf_ok (w : World) (v u : Value) (p q : List (List Int)) (h : ESl Ints w v p) (h' : ESl Ints w u q) (a b : Nat) (ha : Nod p a) (hb : Nod q b) : Does Tryz.prog 96 [v, .int .i64 (a : Int), u, .int .i64 (b : Int)] w (RetOB w XR (og (pairV p a q b)) (pairV p a q b).isSome) := by
  have la : a < p.length := by have := ha.2; omega
  have lb : b < q.length := by have := hb.2; omega
  have hle := h.le
  have hle' := h'.le
  have hG := ha.1.bes5 hb.1
  have n1 : ∀ (w : World) (v : Value), ESl Ints w v p → Does Tryz.prog 31 [v, .int .i64 (a : Int)] w (Ret w (.bool true)) := fun w v h => by
    have := NodeOk_ok w v p h (a : Int); rwa [decide_eq_true ha] at this
  have n2 : ∀ (w : World) (v : Value), ESl Ints w v q → Does Tryz.prog 31 [v, .int .i64 (b : Int)] w (Ret w (.bool true)) := fun w v h => by
    have := NodeOk_ok w v q h (b : Int); rwa [decide_eq_true hb] at this
  have k1 : ∀ (w : World) (v u vl vr : Value), ESl Ints w v p → ESl Ints w u q → Ints w vl [(a : Int)] → Ints w vr [(b : Int)] → Does Tryz.prog 108 [v, u, vl, vr] w (RetO w XR (put (bes p q) [a, p.length + b])) := fun w v u vl vr h1 h2 h3 h4 =>
    l6Put_ok w v u vl vr p q [a] [b] h1 h2 h3 h4 ha.1 (.inl hb.1) (fun x hx => by rw [List.mem_singleton.1 hx]; exact la) (fun x hx => by rw [List.mem_singleton.1 hx]; exact lb) (by simp) (by simp)
  have k2 : ∀ (w : World) (v : Value), ESl Ints w v (put (bes p q) [a, p.length + b]) → Does Tryz.prog 107 [v] w (RetOB w XR (og (pairV p a q b)) (pairV p a q b).isSome) := fun w v h => l6Least_put w v _ _ h hG.1 hG.2
  refine fn_of_W2 Tryz.func96 rfl Tryz.results96 Tryz.ntmps96 rfl ?_
  have litown : True := trivial
  focus
    refine W_seq ?_; refine W_region rfl ?_; refine Wo rfl (opv_assign (v := .slice _ _ _) rfl) ?_; refine Wo rfl (opv_assign (v := .bool _) rfl) ?_; refine Wo_nil ?_; refine W_seq ?_; refine W_seq ?_; refine W_region rfl ?_
    refine Wo rfl (opv_move (v := v) rfl) ?_; refine Wo rfl (opv_move (v := .int _ _) rfl) ?_; refine Wo_call rfl (opc2 (a := v) (b := .int _ _) Tryz.call31 rfl rfl) (n1 _ _ (h)) ?_; rintro _ w1 ⟨rfl, E1⟩; have hs1 := E1.size
    refine Wo rfl (opv_not rfl) ?_; refine Wo_split rfl (opv_move (v := .bool _) rfl) (fun h1 => ?_) (fun h1 => ?_); contradiction; refine Wo rfl (opv_move (v := u) rfl) ?_; refine Wo rfl (opv_move (v := .int _ _) rfl) ?_
    refine Wo_call rfl (opc2 (a := u) (b := .int _ _) Tryz.call31 rfl rfl) (n2 _ _ ((Mono.mono E1 h'))) ?_; rintro _ w2 ⟨rfl, E2⟩; have hs2 := E2.size; refine Wo rfl (opv_not rfl) ?_; refine Wo rfl (opv_pick_f (v := .bool _) rfl rfl) ?_
    refine Wo_nil ?_; refine W_cond rfl (fun h2 => ?_) (fun h2 => ?_); contradiction; refine W_skip ?_; refine W_seq ?_; refine W_region rfl ?_; refine Wo rfl (opv_move (v := v) rfl) ?_; refine Wo rfl (opv_move (v := u) rfl) ?_
    refine Wo rfl (opv_move (v := .int _ _) rfl) ?_; refine Wo_buildSliceH (ps := [(0, .int _ _)]) (cs := [_]) rfl Tryz.underlying58 Tryz.sizeOf3 Tryz.zeroValue3 rfl rfl rfl rfl ?_; rintro b1 w3 hb1 E3 hB1 hHb1; have hlb1 := hB1.lt
    have hLb1 := own_lit1 hHb1 hb1; clear hHb1; have hs3 := E3.size; refine Wo rfl (opv_move (v := .int _ _) rfl) ?_
    refine Wo_buildSliceH (ps := [(0, .int _ _)]) (cs := [_]) rfl Tryz.underlying58 Tryz.sizeOf3 Tryz.zeroValue3 rfl rfl rfl rfl ?_; rintro b2 w4 hb2 E4 hB2 hHb2; have hlb2 := hB2.lt; have hLb2 := own_lit1 hHb2 hb2; clear hHb2
    have hs4 := E4.size
    refine Wo_call rfl (opc4 (a := v) (b := u) (c := .slice _ _ _) (d := .slice _ _ _) Tryz.call108 rfl rfl rfl rfl) (k1 _ _ _ _ _ ((Mono.mono (((E1.trans E2).trans E3).trans E4) h)) ((Mono.mono (((E1.trans E2).trans E3).trans E4) h')) ((Mono.mono E4 (Owned.read hLb1))) ((Owned.read hLb2))) ?_
    rintro u1 w5 ⟨E5, hO1⟩; have ichO1 := OwnedB.isC (Owned.toB hO1); have hs5 := E5.size; refine Wo_call rfl (opc1 (a := u1) Tryz.call107 rfl) (k2 _ _ ((Owned.read hO1))) ?_; rintro _ w6 ⟨u2, rfl, E6, hO2⟩
    have ichO2 := OwnedB.isC (Owned.toB hO2); have hs6 := E6.size; refine Wo rfl (opv_extract (v := u2) rfl rfl) ?_; refine Wo rfl (opv_extract (v := .bool _) rfl rfl) ?_; refine Wo rfl (opv_assign (v := u2) rfl) ?_
    refine Wo rfl (opv_assign (v := .bool _) rfl) ?_; refine Wo_nil ?_; refine W_ret ?_; refine at_ret (v := .tuple #[u2, .bool _]) rfl ?_
    exact ⟨_, rfl, (((((E1.trans E2).trans E3).trans E4).trans E5).trans E6), hO2.toB.o.mono (by omega)⟩

theorem TogetherOf_ok (w : World) (v u : Value) (p q : List (List Int)) (h : ESl Ints w v p) (h' : ESl Ints w u q) (a b : Nat) (ha : Nod p a) (hb : Nod q b) : Does Tryz.prog 97 [v, .int .i64 (a : Int), u, .int .i64 (b : Int)] w (RetOB w XR (og (togV p a q b)) (togV p a q b).isSome) := by
  have la : a < p.length := by have := ha.2; omega
  have lb : b < q.length := by have := hb.2; omega
  have hle := h.le
  have hle' := h'.le
  have hG := ha.1.bes5 hb.1
  have n1 : ∀ (w : World) (v : Value), ESl Ints w v p → Does Tryz.prog 31 [v, .int .i64 (a : Int)] w (Ret w (.bool true)) := fun w v h => by
    have := NodeOk_ok w v p h (a : Int); rwa [decide_eq_true ha] at this
  have n2 : ∀ (w : World) (v : Value), ESl Ints w v q → Does Tryz.prog 31 [v, .int .i64 (b : Int)] w (Ret w (.bool true)) := fun w v h => by
    have := NodeOk_ok w v q h (b : Int); rwa [decide_eq_true hb] at this
  have c1 : ∀ (w : World) (v : Value), ESl Ints w v p → Does Tryz.prog 84 [v, .int .i64 (a : Int)] w (RetO w XI (ints (arr p a))) := fun w v h => l6Arrows_ok w v p h ha.1.gr a la
  have c2 : ∀ (w : World) (v : Value), ESl Ints w v q → Does Tryz.prog 84 [v, .int .i64 (b : Int)] w (RetO w XI (ints (arr q b))) := fun w v h => l6Arrows_ok w v q h hb.1.gr b lb
  have k1 : ∀ (w : World) (v u vl vr : Value), ESl Ints w v p → ESl Ints w u q → Ints w vl (ints (arr p a)) → Ints w vr (ints (arr q b)) → Does Tryz.prog 108 [v, u, vl, vr] w (RetO w XR (put (bes p q) (arr p a ++ (arr q b).map (p.length + ·)))) := fun w v u vl vr h1 h2 h3 h4 =>
    l6Put_ok w v u vl vr p q _ _ h1 h2 h3 h4 ha.1 (.inl hb.1) (fun x hx => arr_lt ha.1.gr la hx) (fun x hx => arr_lt hb.1.gr lb hx) (by have := arr_le ha.1.gr la; have := ha.1.2.1; omega) (by have := arr_le hb.1.gr lb; have := hb.1.2.1; omega)
  have k2 : ∀ (w : World) (v : Value), ESl Ints w v (put (bes p q) (arr p a ++ (arr q b).map (p.length + ·))) → Does Tryz.prog 107 [v] w (RetOB w XR (og (togV p a q b)) (togV p a q b).isSome) := fun w v h => by
    rw [togV_eq ha.1.gr hb.1.gr la lb]
    exact l6Least_put w v _ _ h hG.1 hG.2
  refine fn_of_W2 Tryz.func97 rfl Tryz.results97 Tryz.ntmps97 rfl ?_
  focus
    refine W_seq ?_; refine W_region rfl ?_; refine Wo rfl (opv_assign (v := .slice _ _ _) rfl) ?_; refine Wo rfl (opv_assign (v := .bool _) rfl) ?_; refine Wo_nil ?_; refine W_seq ?_; refine W_seq ?_; refine W_region rfl ?_
    refine Wo rfl (opv_move (v := v) rfl) ?_; refine Wo rfl (opv_move (v := .int _ _) rfl) ?_; refine Wo_call rfl (opc2 (a := v) (b := .int _ _) Tryz.call31 rfl rfl) (n1 _ _ (h)) ?_; rintro _ w1 ⟨rfl, E1⟩; have hs1 := E1.size
    refine Wo rfl (opv_not rfl) ?_; refine Wo_split rfl (opv_move (v := .bool _) rfl) (fun h1 => ?_) (fun h1 => ?_); contradiction; refine Wo rfl (opv_move (v := u) rfl) ?_; refine Wo rfl (opv_move (v := .int _ _) rfl) ?_
    refine Wo_call rfl (opc2 (a := u) (b := .int _ _) Tryz.call31 rfl rfl) (n2 _ _ ((Mono.mono E1 h'))) ?_; rintro _ w2 ⟨rfl, E2⟩; have hs2 := E2.size; refine Wo rfl (opv_not rfl) ?_; refine Wo rfl (opv_pick_f (v := .bool _) rfl rfl) ?_
    refine Wo_nil ?_; refine W_cond rfl (fun h2 => ?_) (fun h2 => ?_); contradiction; refine W_skip ?_; refine W_seq ?_; refine W_region rfl ?_; refine Wo rfl (opv_move (v := v) rfl) ?_; refine Wo rfl (opv_move (v := u) rfl) ?_
    refine Wo rfl (opv_move (v := v) rfl) ?_; refine Wo rfl (opv_move (v := .int _ _) rfl) ?_; refine Wo_call rfl (opc2 (a := v) (b := .int _ _) Tryz.call84 rfl rfl) (c1 _ _ ((Mono.mono (E1.trans E2) h))) ?_; rintro u1 w3 ⟨E3, hO1⟩
    have hs3 := E3.size; refine Wo rfl (opv_move (v := u) rfl) ?_; refine Wo rfl (opv_move (v := .int _ _) rfl) ?_
    refine Wo_call rfl (opc2 (a := u) (b := .int _ _) Tryz.call84 rfl rfl) (c2 _ _ ((Mono.mono ((E1.trans E2).trans E3) h'))) ?_; rintro u2 w4 ⟨E4, hO2⟩; have hs4 := E4.size
    refine Wo_call rfl (opc4 (a := v) (b := u) (c := u1) (d := u2) Tryz.call108 rfl rfl rfl rfl) (k1 _ _ _ _ _ ((Mono.mono (((E1.trans E2).trans E3).trans E4) h)) ((Mono.mono (((E1.trans E2).trans E3).trans E4) h')) ((Mono.mono E4 (Owned.read hO1))) ((Owned.read hO2))) ?_
    rintro u3 w5 ⟨E5, hO3⟩; have hs5 := E5.size; refine Wo_call rfl (opc1 (a := u3) Tryz.call107 rfl) (k2 _ _ ((Owned.read hO3))) ?_; rintro _ w6 ⟨u4, rfl, E6, hO4⟩; have hs6 := E6.size; refine Wo rfl (opv_extract (v := u4) rfl rfl) ?_
    refine Wo rfl (opv_extract (v := .bool _) rfl rfl) ?_; refine Wo rfl (opv_assign (v := u4) rfl) ?_; refine Wo rfl (opv_assign (v := .bool _) rfl) ?_; refine Wo_nil ?_; refine W_ret ?_
    refine at_ret (v := .tuple #[u4, .bool _]) rfl ?_; exact ⟨_, rfl, (((((E1.trans E2).trans E3).trans E4).trans E5).trans E6), hO4.toB.o.mono (by omega)⟩

open Classical in
theorem WithoutSet_ok (w : World) (v u : Value) (p q : List (List Int)) (h : ESl Ints w v p) (h' : ESl Ints w u q) (a b : Nat) (ha : Nod p a) (hb : Nod q b) : Does Tryz.prog 98 [v, .int .i64 (a : Int), u, .int .i64 (b : Int)] w (RetOB w XR (og (wosV p a q b)) (wosV p a q b).isSome) := by
  have la : a < p.length := by have := ha.2; omega
  have lb : b < q.length := by have := hb.2; omega
  have hle := h.le
  have hle' := h'.le
  have n1 : ∀ (w : World) (v : Value), ESl Ints w v p → Does Tryz.prog 31 [v, .int .i64 (a : Int)] w (Ret w (.bool true)) := fun w v h => by
    have := NodeOk_ok w v p h (a : Int); rwa [decide_eq_true ha] at this
  have n2 : ∀ (w : World) (v : Value), ESl Ints w v q → Does Tryz.prog 31 [v, .int .i64 (b : Int)] w (Ret w (.bool true)) := fun w v h => by
    have := NodeOk_ok w v q h (b : Int); rwa [decide_eq_true hb] at this
  have c1 : ∀ (w : World) (v : Value), ESl Ints w v p → Does Tryz.prog 84 [v, .int .i64 (a : Int)] w (RetO w XI (ints (arr p a))) := fun w v h => l6Arrows_ok w v p h ha.1.gr a la
  have hal := arr_le ha.1.gr la
  have hail := ints_len (arr p a)
  have hp5 := ha.1.2.1
  refine fn_of_W2 Tryz.func98 rfl Tryz.results98 Tryz.ntmps98 rfl ?_
  focus
    refine W_seq ?_; refine W_region rfl ?_; refine Wo rfl (opv_assign (v := .slice _ _ _) rfl) ?_; refine Wo rfl (opv_assign (v := .bool _) rfl) ?_; refine Wo_nil ?_; refine W_seq ?_; refine W_seq ?_; refine W_region rfl ?_
    refine Wo rfl (opv_move (v := v) rfl) ?_; refine Wo rfl (opv_move (v := .int _ _) rfl) ?_; refine Wo_call rfl (opc2 (a := v) (b := .int _ _) Tryz.call31 rfl rfl) (n1 _ _ (h)) ?_; rintro _ w1 ⟨rfl, E1⟩; have hs1 := E1.size
    refine Wo rfl (opv_not rfl) ?_; refine Wo_split rfl (opv_move (v := .bool _) rfl) (fun h1 => ?_) (fun h1 => ?_); contradiction; refine Wo rfl (opv_move (v := u) rfl) ?_; refine Wo rfl (opv_move (v := .int _ _) rfl) ?_
    refine Wo_call rfl (opc2 (a := u) (b := .int _ _) Tryz.call31 rfl rfl) (n2 _ _ ((Mono.mono E1 h'))) ?_; rintro _ w2 ⟨rfl, E2⟩; have hs2 := E2.size; refine Wo rfl (opv_not rfl) ?_; refine Wo rfl (opv_pick_f (v := .bool _) rfl rfl) ?_
    refine Wo_nil ?_; refine W_cond rfl (fun h2 => ?_) (fun h2 => ?_); contradiction; refine W_skip ?_; refine W_seq ?_; refine W_region rfl ?_; refine Wo_lit0 XInt rfl el58 Tryz.sizeOf3 ?_; rintro b1 w3 hb1 b1lt E3 hO1
    have hs3 := E3.size; refine Wo rfl (opv_assign (v := .slice _ _ _) rfl) ?_; refine Wo_nil ?_; refine W_seq ?_; refine W_region rfl ?_; refine Wo rfl (opv_move (v := v) rfl) ?_; refine Wo rfl (opv_move (v := .int _ _) rfl) ?_
    refine Wo_call rfl (opc2 (a := v) (b := .int _ _) Tryz.call84 rfl rfl) (c1 _ _ ((Mono.mono ((E1.trans E2).trans E3) h))) ?_; rintro u1 w4 ⟨E4, hO2⟩; have hs4 := E4.size; refine Wo rfl (opv_assign (v := u1) rfl) ?_; refine Wo_nil ?_
    refine W_seq ?_; refine W_seq ?_; refine W_region rfl ?_; refine Wo rfl (opv_assign (v := .int _ _) rfl) ?_; refine Wo_nil ?_; refine W_block ?_
  have hO3 : Owned w.heap.size XI w4 (.slice (some ⟨b1, 0, none⟩) 0 0) (ints []) := (hO1.ext E4).mono (by omega)
  have hBe : Besides (Value.ownBlock (.slice (some ⟨b1, 0, none⟩) 0 0)) Ints w4 u1 (ints (arr p a)) := Besides.start hO1 hO2.above
  clear hO1 hO2
  have E0 : Ext w w4 := by exact (((E1.trans E2).trans E3).trans E4)
  refine W_loop [10, 12, 28, 29, 30, 31, 32, 33, 34, 35, 36, 37, 38, 39, 40, 41, 42, 43, 44, 45, 46, 47, 48, 49] (fun ((k, u, L) : Nat × Value × List Nat) => [(12, .int .i64 (k : Nat)), (10, u)]) (fun (k, u, L) w' => Ext w w' ∧ k ≤ (arr p a).length ∧ Owned w.heap.size XI w' u (ints L) ∧ Besides u.ownBlock Ints w' u1 (ints (arr p a)) ∧ L = ((arr p a).take k).filter fun v => !decide (Bis p v q b)) (fun x => (arr p a).length - x.1) (0, .slice (some ⟨b1, 0, none⟩) 0 0, []) (by repeat (first | exact trivial | refine And.intro rfl ?_)) ?_ ?_
  · exact ⟨by exact E0, Nat.zero_le _, hO3, hBe, by simp⟩
  clear hO3 hBe
  rintro ⟨k, uk, L⟩ ρj w5 ⟨E5, hk, hO3, hBe, hL⟩
  have hLle : L.length ≤ (arr p a).length := by rw [hL]; exact Nat.le_trans (List.length_filter_le _ _) (by rw [List.length_take]; omega)
  have hLil := ints_len L
  by_cases hkl : k < (arr p a).length
  · have hm := arr_lt ha.1.gr la (List.getElem_mem hkl)
    have hgk : (ints (arr p a))[k]'(by omega) = ((arr p a)[k] : Int) := ints_get hkl
    have hts := take_snoc _ _ hkl
    have hnk : Nod p ((arr p a)[k] : Nat) := ⟨ha.1, by omega, by omega⟩
    by_cases hB : Bis p (arr p a)[k] q b
    · have k3 : ∀ (w : World) (v u : Value), ESl Ints w v p → ESl Ints w u q → Does Tryz.prog 109 [v, .int .i64 ((ints (arr p a))[k]'(by omega)), u, .int .i64 (b : Int)] w (Ret w (.bool true)) := fun w v u h1 h2 => by
        have := spec_SameSet_ok w v u p q h1 h2 (((arr p a)[k] : Nat) : Int) (b : Int) hnk hb
        rw [hgk]; simp only [Int.toNat_natCast] at this
        rwa [decide_eq_true hB] at this
      focus
        have szE5 := E5.size; have szE0 := E0.size; have szE4 := E4.size; have szE3 := E3.size; have szE2 := E2.size; have szE1 := E1.size; refine W_seq ?_; refine W_seq ?_; refine W_region rfl ?_
        refine Wo rfl (opv_move (v := .int _ _) rfl) ?_; refine Wo rfl (opv_move (v := u1) rfl) ?_; refine Wo rfl (opv_len Tryz.underlying58 rfl (Besides.here hBe)) ?_; refine Wo rfl (opv_lss rfl rfl) ?_; refine Wo_nil ?_
        refine W_cond_dec rfl (fun h3 => ?_) (fun h3 => ?_); refine W_skip ?_; refine W_seq ?_; refine W_block ?_; refine W_seq ?_; refine W_region rfl ?_; refine Wo rfl (opv_move (v := v) rfl) ?_; refine Wo rfl (opv_move (v := u1) rfl) ?_
        refine Wo rfl (opv_move (v := .int _ _) rfl) ?_; refine Wo_get Tryz.underlying58 Tryz.sizeOf3 Tryz.isAgg3 rfl (fun _ => rfl) rfl (Besides.here hBe) (Ext.refl _) rfl (by first | omega | (simp <;> omega)) ?_; rintro _ _ rfl
        refine Wo rfl (opv_move (v := u) rfl) ?_; refine Wo rfl (opv_move (v := .int _ _) rfl) ?_
        refine Wo_call rfl (opc4 (a := v) (b := .int _ _) (c := u) (d := .int _ _) Tryz.call109 rfl rfl rfl rfl) (k3 _ _ _ ((Mono.mono E5 h)) ((Mono.mono E5 h'))) ?_; rintro _ w6 ⟨rfl, E6⟩; have hs5 := E6.size
        refine Wo rfl (opv_not rfl) ?_; refine Wo_nil ?_; refine W_cond rfl (fun h4 => ?_) (fun h4 => ?_); contradiction; refine W_skip ?_; refine W_region rfl ?_; refine Wo rfl (opv_move (v := .int _ _) rfl) ?_
        refine Wo rfl (opv_add rfl rfl (by omega)) ?_; refine Wo rfl (opv_assign (v := .int _ _) rfl) ?_; refine Wo_nil ?_; rotate_left; (exfalso; omega)
      refine ⟨((k + 1, uk, L)), by repeat (first | exact trivial | refine And.intro rfl ?_), by repeat (first | with_reducible exact Same.refl | refine Same.upd rfl ?_ | refine Same.upds rfl ?_ | refine Same.mix rfl ?_), ?_, ?_⟩
      · refine ⟨by exact (E5.trans E6), by omega, by exact (Mono.mono E6 hO3), by exact (hBe.ext E6), ?_⟩
        rw [hL, hts, List.filter_append]; simp [hB]
      · simp only; omega
    · have k3 : ∀ (w : World) (v u : Value), ESl Ints w v p → ESl Ints w u q → Does Tryz.prog 109 [v, .int .i64 ((ints (arr p a))[k]'(by omega)), u, .int .i64 (b : Int)] w (Ret w (.bool false)) := fun w v u h1 h2 => by
        have := spec_SameSet_ok w v u p q h1 h2 (((arr p a)[k] : Nat) : Int) (b : Int) hnk hb
        rw [hgk]; simp only [Int.toNat_natCast] at this
        rwa [decide_eq_false hB] at this
      focus
        have szE5 := E5.size; have szE0 := E0.size; have szE4 := E4.size; have szE3 := E3.size; have szE2 := E2.size; have szE1 := E1.size; refine W_seq ?_; refine W_seq ?_; refine W_region rfl ?_
        refine Wo rfl (opv_move (v := .int _ _) rfl) ?_; refine Wo rfl (opv_move (v := u1) rfl) ?_; refine Wo rfl (opv_len Tryz.underlying58 rfl (Besides.here hBe)) ?_; refine Wo rfl (opv_lss rfl rfl) ?_; refine Wo_nil ?_
        refine W_cond_dec rfl (fun h3 => ?_) (fun h3 => ?_); refine W_skip ?_; refine W_seq ?_; refine W_block ?_; refine W_seq ?_; refine W_region rfl ?_; refine Wo rfl (opv_move (v := v) rfl) ?_; refine Wo rfl (opv_move (v := u1) rfl) ?_
        refine Wo rfl (opv_move (v := .int _ _) rfl) ?_; refine Wo_get Tryz.underlying58 Tryz.sizeOf3 Tryz.isAgg3 rfl (fun _ => rfl) rfl (Besides.here hBe) (Ext.refl _) rfl (by first | omega | (simp <;> omega)) ?_; rintro _ _ rfl
        refine Wo rfl (opv_move (v := u) rfl) ?_; refine Wo rfl (opv_move (v := .int _ _) rfl) ?_
        refine Wo_call rfl (opc4 (a := v) (b := .int _ _) (c := u) (d := .int _ _) Tryz.call109 rfl rfl rfl rfl) (k3 _ _ _ ((Mono.mono E5 h)) ((Mono.mono E5 h'))) ?_; rintro _ w6 ⟨rfl, E6⟩; have hs5 := E6.size
        refine Wo rfl (opv_not rfl) ?_; refine Wo_nil ?_; refine W_cond rfl (fun h4 => ?_) (fun h4 => ?_); refine W_region rfl ?_; refine Wo rfl (opv_move (v := uk) rfl) ?_; refine Wo rfl (opv_move (v := u1) rfl) ?_
        refine Wo rfl (opv_move (v := .int _ _) rfl) ?_; refine Wo_get Tryz.underlying58 Tryz.sizeOf3 Tryz.isAgg3 rfl (fun _ => rfl) rfl (Besides.here hBe) E6 rfl (by first | omega | (simp <;> omega)) ?_; rintro _ _ rfl
        refine Wo_buildSliceH (ps := [(0, .int _ _)]) (cs := [_]) rfl Tryz.underlying58 Tryz.sizeOf3 Tryz.zeroValue3 rfl rfl rfl rfl ?_; rintro b2 w7 hb2 E7 hB1 hHb2; have hlb2 := hB1.lt; have hs6 := E7.size
        refine Wo_app1 rfl el58 rfl rfl hB1 (hO3.toB.ext (E6.trans E7)) Owned.int (Nat.le_refl _) (by first | omega | (simp <;> omega)) (by omega) (by omega) ((E5.trans E6).trans E7) (by omega) ?_; have hT1 := (hO3.toB.ext (E6.trans E7))
        rintro v1 w8 hO3 E8 M1; have hBe := (hBe.ext (E6.trans E7)).moves M1; have hB1 := hB1.moves M1 hT1 (by omega); have hs7 := E8.size; refine Wo rfl (opv_assign (v := v1) rfl) ?_; refine Wo_nil ?_; refine W_region rfl ?_
        refine Wo rfl (opv_move (v := .int _ _) rfl) ?_; refine Wo rfl (opv_add rfl rfl (by omega)) ?_; refine Wo rfl (opv_assign (v := .int _ _) rfl) ?_; refine Wo_nil ?_; rotate_left; contradiction; (exfalso; omega)
      refine ⟨((k + 1, v1, L ++ [(arr p a)[k]])), by repeat (first | exact trivial | refine And.intro rfl ?_), by repeat (first | with_reducible exact Same.refl | refine Same.upd rfl ?_ | refine Same.upds rfl ?_ | refine Same.mix rfl ?_), ?_, ?_⟩
      · refine ⟨by exact E8, by omega, ?_, by exact hBe, ?_⟩
        · rw [ints_append, show ints [(arr p a)[k]] = [(ints (arr p a))[k]'(by omega)] by rw [hgk]; rfl]
          assumption
        · rw [hL, hts, List.filter_append]; simp [hB]
      · simp only; omega
  · obtain rfl : k = (arr p a).length := by omega
    rw [List.take_length] at hL
    have hLm : ∀ x ∈ L, x < p.length := fun x hx => arr_lt ha.1.gr la (List.mem_filter.1 (hL ▸ hx)).1
    have rL := hO3.read
    have rA := hBe.here
    clear hO3 hBe
    have hpp := ha.1.gr
    have k1 : ∀ (w : World) (v u vl vr : Value), ESl Ints w v p → ESl Ints w u [] → Ints w vl (ints L) → Ints w vr [] → Does Tryz.prog 108 [v, u, vl, vr] w (RetO w XR (put (bes p []) (L ++ ([] : List Nat).map (p.length + ·)))) := fun w v u vl vr h1 h2 h3 h4 =>
      l6Put_ok w v u vl vr p [] _ [] h1 h2 h3 h4 ha.1 (.inr rfl) hLm (fun x hx => by cases hx) (by omega) (by simp)
    have k2 : ∀ (w : World) (v : Value), ESl Ints w v (put (bes p []) (L ++ ([] : List Nat).map (p.length + ·))) → Does Tryz.prog 107 [v] w (RetOB w XR (og (wosV p a q b)) (wosV p a q b).isSome) := fun w v h => by
      rw [wosV_eq, ← hL]
      exact l6Least_put w v _ _ h (by rw [bes_nil]; exact hpp) (by rw [bes_nil]; omega)
    focus
      have szE5 := E5.size; have szE0 := E0.size; have szE4 := E4.size; have szE3 := E3.size; have szE2 := E2.size; have szE1 := E1.size; refine W_seq ?_; refine W_seq ?_; refine W_region rfl ?_
      refine Wo rfl (opv_move (v := .int _ _) rfl) ?_; refine Wo rfl (opv_move (v := u1) rfl) ?_; refine Wo rfl (opv_len Tryz.underlying58 rfl rA) ?_; refine Wo rfl (opv_lss rfl rfl) ?_; refine Wo_nil ?_
      refine W_cond_dec rfl (fun h3 => ?_) (fun h3 => ?_); (exfalso; omega); refine W_exit ?_; refine exitX_same ?_; refine W_seq ?_; refine W_region rfl ?_; refine Wo rfl (opv_move (v := v) rfl) ?_
      refine Wo_lit0 (XSl 3 XInt) rfl el22 Tryz.sizeOf58 ?_; rintro b2 w6 hb2 b2lt E6 hO1; have hs5 := E6.size; refine Wo rfl (opv_move (v := uk) rfl) ?_; refine Wo_lit0 XInt rfl el58 Tryz.sizeOf3 ?_; rintro b3 w7 hb3 b3lt E7 hO2
      have hs6 := E7.size
      refine Wo_call rfl (opc4 (a := v) (b := .slice _ _ _) (c := uk) (d := .slice _ _ _) Tryz.call108 rfl rfl rfl rfl) (k1 _ _ _ _ _ ((Mono.mono ((E5.trans E6).trans E7) h)) ((Mono.mono E7 (Owned.read hO1))) ((Mono.mono (E6.trans E7) rL)) ((Owned.read hO2))) ?_
      rintro u2 w8 ⟨E8, hO3⟩; have hs7 := E8.size; refine Wo_call rfl (opc1 (a := u2) Tryz.call107 rfl) (k2 _ _ ((Owned.read hO3))) ?_; rintro _ w9 ⟨u3, rfl, E9, hO4⟩; have hs8 := E9.size; refine Wo rfl (opv_extract (v := u3) rfl rfl) ?_
      refine Wo rfl (opv_extract (v := .bool _) rfl rfl) ?_; refine Wo rfl (opv_assign (v := u3) rfl) ?_; refine Wo rfl (opv_assign (v := .bool _) rfl) ?_; refine Wo_nil ?_; refine W_ret ?_
      refine at_ret (v := .tuple #[u3, .bool _]) rfl ?_; exact ⟨_, rfl, ((((E5.trans E6).trans E7).trans E8).trans E9), hO4.toB.o.mono (by omega)⟩

end Go.Proofs.YtgphoihilheoeaaGreatDoor
namespace Go.Proofs.YtgphoihilheoeaaGreatDoor
open Go.Hs
set_option maxRecDepth 10000
set_option maxHeartbeats 4000000
set_option linter.unusedVariables false
set_option linter.unusedSimpArgs false

theorem l11Rows_ok (w : World) (v : Value) (p : List (List Int)) (h : ESl Ints w v p) (hp : p.length ≤ 100) (hr : ∀ r ∈ p, r.length ≤ 100) : Does Tryz.prog 94 [v] w (RetO w XR p) := by
  have hle := h.le
  refine fn_of_W1 Tryz.func94 rfl Tryz.results94 Tryz.ntmps94 rfl ?_
  focus
    refine W_seq ?_; refine W_region rfl ?_; refine Wo rfl (opv_assign (v := .slice _ _ _) rfl) ?_; refine Wo_nil ?_; refine W_seq ?_; refine W_region rfl ?_; refine Wo_lit0 (XSl 3 XInt) rfl el22 Tryz.sizeOf58 ?_
    rintro b1 w1 hb1 b1lt E1 hO1; have hs1 := E1.size; refine Wo rfl (opv_assign (v := .slice _ _ _) rfl) ?_; refine Wo_nil ?_; refine W_seq ?_; refine W_seq ?_; refine W_region rfl ?_; refine Wo rfl (opv_assign (v := .int _ _) rfl) ?_
    refine Wo_nil ?_; refine W_block ?_
  refine W_loop [3, 4, 6, 7, 8, 9, 10, 11, 12, 13, 14, 15, 16, 17, 18, 19, 20] (fun ((k, u) : Nat × Value) => [(4, .int .i64 (k : Nat)), (3, u)]) (fun (k, u) w' => Ext w w' ∧ k ≤ p.length ∧ Owned w.heap.size XR w' u (p.take k)) (fun x => p.length - x.1) (0, .slice (some ⟨b1, 0, none⟩) 0 0) (by repeat (first | exact trivial | refine And.intro rfl ?_)) ?_ ?_
  · exact ⟨by exact E1, Nat.zero_le _, by simpa using hO1⟩
  clear hO1
  rintro ⟨k, u⟩ ρj w2 ⟨E2, hk, hO1⟩
  have hlt' : (p.take k).length = k := by simp; omega
  by_cases hlt : k < p.length
  · have hrl := hr _ (List.getElem_mem hlt)
    have heldS : w = w := rfl
    have litown : True := trivial
    focus
      have szE2 := E2.size; have szE1 := E1.size; refine W_seq ?_; refine W_seq ?_; refine W_region rfl ?_; refine Wo rfl (opv_move (v := .int _ _) rfl) ?_; refine Wo rfl (opv_move (v := v) rfl) ?_
      refine Wo rfl (opv_len Tryz.underlying22 rfl h) ?_; refine Wo rfl (opv_lss rfl rfl) ?_; refine Wo_nil ?_; refine W_cond_dec rfl (fun h1 => ?_) (fun h1 => ?_); refine W_skip ?_; refine W_seq ?_; refine W_block ?_
      refine W_region rfl ?_; refine Wo rfl (opv_move (v := u) rfl) ?_; refine Wo_lit0 XInt rfl el58 Tryz.sizeOf3 ?_; rintro b2 w3 hb2 b2lt E3 hO2; have hs2 := E3.size; refine Wo rfl (opv_move (v := v) rfl) ?_
      refine Wo rfl (opv_move (v := .int _ _) rfl) ?_; refine Wo_get Tryz.underlying22 Tryz.sizeOf58 Tryz.isAgg58 rfl (fun _ => rfl) rfl h (E2.trans E3) rfl (by first | omega | (simp <;> omega)) ?_; rintro _ u1 hu1
      refine Wo_appS rfl el58 rfl rfl (Mono.mono (E2.trans E3) hu1) hO2.toB (by first | omega | (simp <;> omega)) (by omega) (by omega) (E2.trans E3) (by omega) ?_; have hT1 := hO2.toB; rintro v1 w4 hO2 E4 M1
      have E5 := M1.ext hT1 E3 (by omega); have szE5 := E5.size; have hO1 := (hO1.toB.ext E3).moves M1 hT1 (by omega); have hs3 := E4.size; have szM1 := M1.1.size; have icv1 := OwnedB.isC (Owned.toB hO2)
      refine Wo_buildSlice1 rfl Tryz.underlying22 Tryz.sizeOf58 Tryz.zeroValue58 rfl (OwnedB.isC hO2.toB) rfl ?_; rintro b3 w5 hb3 E6 hB1 hHb3; have hlb3 := hB1.lt; have hs4 := E6.size
      refine Wo_app1 rfl el22 rfl rfl hB1 (hO1.ext E6) (hO2.toB.ext E6).o (by omega) (by first | omega | (simp <;> omega)) (by omega) (by omega) (E4.trans E6) (by omega) ?_; have hT2 := (hO1.ext E6); rintro v2 w6 hO1 E7 M2
      have hO2 := (hO2.toB.ext E6).moves M2 hT2 (by omega); have hB1 := hB1.moves M2 hT2 (by omega); have hs5 := E7.size; have szM2 := M2.1.size; have icv2 := OwnedB.isC (Owned.toB hO1); refine Wo rfl (opv_assign (v := v2) rfl) ?_
      refine Wo_nil ?_; refine W_region rfl ?_; refine Wo rfl (opv_move (v := .int _ _) rfl) ?_; refine Wo rfl (opv_add rfl rfl (by omega)) ?_; refine Wo rfl (opv_assign (v := .int _ _) rfl) ?_; refine Wo_nil ?_; rotate_left
      (exfalso; omega)
    refine ⟨((k + 1, v2)), by repeat (first | exact trivial | refine And.intro rfl ?_), by repeat (first | with_reducible exact Same.refl | refine Same.upd rfl ?_ | refine Same.upds rfl ?_ | refine Same.mix rfl ?_), ?_, ?_⟩
    · refine ⟨by exact E7, by omega, ?_⟩
      rw [take_snoc _ _ hlt]
      exact hO1
    · simp only; omega
  · obtain rfl : k = p.length := by omega
    rw [List.take_length] at hO1
    focus
      have szE2 := E2.size; have szE1 := E1.size; refine W_seq ?_; refine W_seq ?_; refine W_region rfl ?_; refine Wo rfl (opv_move (v := .int _ _) rfl) ?_; refine Wo rfl (opv_move (v := v) rfl) ?_
      refine Wo rfl (opv_len Tryz.underlying22 rfl h) ?_; refine Wo rfl (opv_lss rfl rfl) ?_; refine Wo_nil ?_; refine W_cond_dec rfl (fun h1 => ?_) (fun h1 => ?_); (exfalso; omega); refine W_exit ?_; refine exitX_same ?_; refine W_seq ?_
      refine W_region rfl ?_; refine Wo rfl (opv_move (v := u) rfl) ?_; refine Wo rfl (opv_assign (v := u) rfl) ?_; refine Wo_nil ?_; refine W_ret ?_; exact ⟨E2, hO1.toB.o.mono (by omega)⟩

theorem l11Copy_ok (w : World) (u1 u2 : Value) (now : List (List Int)) (past : List (List (List Int))) (h1 : ESl Ints w u1 now) (h2 : ESl (ESl Ints) w u2 past) (hn : now.length ≤ 100 ∧ ∀ r ∈ now, r.length ≤ 100) (hpl : past.length ≤ 100) (hp : ∀ p ∈ past, p.length ≤ 100 ∧ ∀ r ∈ p, r.length ≤ 100) :
    Does Tryz.prog 82 [.agg #[u1, u2]] w (RetDk w 22 58 3 now past) := by
  have hle := h2.le
  have k1 : ∀ (w : World) (v : Value), ESl Ints w v now → Does Tryz.prog 94 [v] w (RetO w XR now) := fun w v h => l11Rows_ok w v now h hn.1 hn.2
  have k2 : ∀ (k : Nat) (hk : k < past.length) (w : World) (v : Value), ESl Ints w v past[k] → Does Tryz.prog 94 [v] w (RetO w XR past[k]) := fun k hk w v h => l11Rows_ok w v _ h (hp _ (List.getElem_mem hk)).1 (hp _ (List.getElem_mem hk)).2
  refine fn_of_Wc Tryz.func82 rfl Tryz.results82 Tryz.ntmps82 rfl Tryz.isAgg28 Tryz.sizeOf28 ?_
  have litown : True := trivial
  focus
    refine W_seq ?_; refine W_region rfl ?_; refine Wo_box rfl rfl rfl ?_; rintro b1 w1 hb1 E1 hB1; have hlb1 := hB1.lt; have hs1 := E1.size; refine Wo_alloc2 rfl flat28 ?_; rintro b2 w2 hb2 E2 hB2; have hlb2 := hB2.lt
    have hs2 := E2.size; refine Wo_nil ?_; refine W_seq ?_; refine W_region rfl ?_; refine Wo rfl (opv_fieldAddr Tryz.underlying28 rfl rfl Tryz.sizeOf22 rfl) ?_
    refine Wo (v := u1) rfl (opv_load Tryz.isAgg22 rfl ((hB1.ext E2).cell rfl)) ?_; refine Wo_call rfl (opc1 (a := u1) Tryz.call94 rfl) (k1 _ _ ((Mono.mono (E1.trans E2) h1))) ?_; rintro u3 w3 ⟨E3, hO1⟩
    have ichO1 := OwnedB.isC (Owned.toB hO1); have hs3 := E3.size; refine Wo rfl (opv_buildF0 flat28 rfl (OwnedB.isC hO1.toB)) ?_; refine Wo_alloc2 rfl flat28 ?_; rintro b3 w4 hb3 E4 hB3; have hlb3 := hB3.lt; have hs4 := E4.size
    refine Wo_st2 rfl Tryz.sizeOf28 rfl rfl (by first | rfl | assumption) (by first | rfl | assumption) hB3 (by omega) (((E1.trans E2).trans E3).trans E4) ?_; rintro w5 E5 hB3 K1 hz1
    have E6 := ((E2.trans E3).trans E4).wroteAt (((E1.trans E2).trans E3).trans E4) E5 K1 hz1 (by omega); have szE6 := E6.size; have E7 := (E3.trans E4).wroteAt (((E1.trans E2).trans E3).trans E4) E5 K1 hz1 (by omega)
    have szE7 := E7.size; have E8 := E4.wroteAt (((E1.trans E2).trans E3).trans E4) E5 K1 hz1 (by omega); have szE8 := E8.size; simp only [List.set] at hB3; have hB1 := (hB1.ext ((E2.trans E3).trans E4)).of_heap (K1 _ (by omega))
    have hB2 := (hB2.ext (E3.trans E4)).of_heap (K1 _ (by omega)); have hO1 := (hO1.toB.ext E4).wrote K1 (by omega); refine Wo_nil ?_; refine W_seq ?_; refine W_seq ?_; refine W_region rfl ?_
    refine Wo rfl (opv_assign (v := .int _ _) rfl) ?_; refine Wo_nil ?_; refine W_block ?_
  have hO0 : Owned w4.heap.size (XSl 22 XR) w5 (.slice none 0 0) ([] : List (List (List Int))) := Owned.nil
  have hN := hO1
  clear hO1 hB1 hB2 k1
  refine W_loop [4, 9, 10, 11, 12, 13, 14, 15, 16, 17, 18, 19, 20, 21, 22, 23, 24, 25, 26] (fun ((k, u) : Nat × Value) => [(4, .int .i64 (k : Nat))]) (fun (k, u) w' => Ext w3 w' ∧ k ≤ past.length ∧ w4.heap.size ≤ w'.heap.size ∧ Blk w' b3 [u3, u] ∧ Owned w4.heap.size (XSl 22 XR) w' u (past.take k) ∧ OwnedB w2.heap.size w3.heap.size XR w' u3 now) (fun x => past.length - x.1) (0, .slice none 0 0) (by repeat (first | exact trivial | refine And.intro rfl ?_)) ?_ ?_
  · exact ⟨by exact E8, Nat.zero_le _, by omega, hB3, by simpa using hO0, hN⟩
  clear hO0 hB3 hN
  rintro ⟨k, u⟩ ρj w6 ⟨E6, hk, hsz, hB4, hO1, hN⟩
  have icu : isCell u = true := OwnedB.isC hO1.toB
  have hlt' : (past.take k).length = k := by simp; omega
  by_cases hlt : k < past.length
  · have k2k := k2 k hlt
    have ht := take_snoc _ _ hlt
    have heldS : w = w := rfl
    focus
      have szE6 := E6.size; have szE8 := E8.size; have szE7 := E7.size; have szE6 := E6.size; have szE5 := E5.size; have szE4 := E4.size; have szE3 := E3.size; have szE2 := E2.size; have szE1 := E1.size; refine W_seq ?_; refine W_seq ?_
      refine W_region rfl ?_; refine Wo rfl (opv_move (v := .int _ _) rfl) ?_; refine Wo rfl (opv_fieldAddr Tryz.underlying28 rfl rfl Tryz.sizeOf23 rfl) ?_
      refine Wo (v := u2) rfl (opv_load Tryz.isAgg23 rfl ((hB1.ext ((E2.trans E3).trans E6)).cell rfl)) ?_; refine Wo rfl (opv_len Tryz.underlying23 rfl h2) ?_; refine Wo rfl (opv_lss rfl rfl) ?_; refine Wo_nil ?_
      refine W_cond_dec rfl (fun h3 => ?_) (fun h3 => ?_); refine W_skip ?_; refine W_seq ?_; refine W_block ?_; refine W_held (fun w' => Ext w w') mixed rfl (by kernel_rfl) ?_; intro w7 E9 K2 hz2; have hs5 := E9.size
      refine Wh_take 0 rfl (by kernel_rfl) (by kernel_rfl) rfl (fun _ _ => opv_fieldAddr Tryz.underlying28 rfl rfl Tryz.sizeOf23 rfl) ((((E1.trans E2).trans E3).trans E6).trans E9) ?_
      refine Wh_take 2 rfl (by kernel_rfl) (by kernel_rfl) rfl (fun _ _ => opv_fieldAddr Tryz.underlying28 rfl rfl Tryz.sizeOf23 rfl) ((((E1.trans E2).trans E3).trans E6).trans E9) ?_
      refine Wh_take 4 rfl (by kernel_rfl) (by kernel_rfl) rfl (fun _ _ => opv_move (v := .int _ _) rfl) ((((E1.trans E2).trans E3).trans E6).trans E9) ?_; refine Wh_all (rs := [1, 3]) (by kernel_rfl) rfl ?_; refine WhAll_cons rfl ?_ ?_
      refine Wo (v := u) rfl (opv_load Tryz.isAgg23 rfl ((hB4.ext E9).cell rfl)) ?_; refine Wo_nil ?_; refine ⟨((((E1.trans E2).trans E3).trans E6).trans E9), ?_⟩; refine Wh_all (rs := [3]) (by kernel_rfl) rfl ?_
      refine WhAll_cons rfl ?_ ?_; refine Wo (v := u2) rfl (opv_load Tryz.isAgg23 rfl ((hB1.ext (((E2.trans E3).trans E6).trans E9)).cell rfl)) ?_; refine Wo_nil ?_; refine ⟨((((E1.trans E2).trans E3).trans E6).trans E9), ?_⟩
      refine Wh_get 5 6 rfl (by kernel_rfl) (by kernel_rfl) rfl rfl (by kernel_rfl) (by kernel_rfl) (fun _ => rfl) Tryz.underlying23 Tryz.sizeOf22 Tryz.isAgg22 rfl h2 (fun w' hw' => Ext.trans (Ext.refl _) hw') rfl (by first | omega | (simp <;> omega)) ((((E1.trans E2).trans E3).trans E6).trans E9) ?_
      rintro _ u4 hu1; refine Wh_all (rs := [7]) (by kernel_rfl) rfl ?_; refine WhAll_cons rfl ?_ ?_; refine Wo_call rfl (opc1 (a := u4) Tryz.call94 rfl) (k2k _ _ ((Mono.mono ((((E1.trans E2).trans E3).trans E6).trans E9) hu1))) ?_
      rintro u5 w8 ⟨E10, hO2⟩; have ichO2 := OwnedB.isC (Owned.toB hO2); have hs6 := E10.size; refine Wo_nil ?_; refine ⟨(((((E1.trans E2).trans E3).trans E6).trans E9).trans E10), ?_⟩; refine Wh_all (rs := [8]) (by kernel_rfl) rfl ?_
      refine WhAll_cons rfl ?_ ?_; refine Wo_buildSlice1 rfl Tryz.underlying23 Tryz.sizeOf22 Tryz.zeroValue22 rfl (OwnedB.isC hO2.toB) rfl ?_; rintro b4 w9 hb4 E11 hB5 hHb4; have hlb4 := hB5.lt; have hs7 := E11.size; refine Wo_nil ?_
      refine ⟨((((((E1.trans E2).trans E3).trans E6).trans E9).trans E10).trans E11), ?_⟩; refine Wh_all (rs := [9]) (by kernel_rfl) rfl ?_; refine WhAll_cons rfl ?_ ?_
      refine Wo_app1 rfl el23 rfl rfl hB5 (hO1.toB.ext ((E9.trans E10).trans E11)) (hO2.toB.ext E11).o (by omega) (by first | omega | (simp <;> omega)) (by omega) (by omega) ((((((E1.trans E2).trans E3).trans E6).trans E9).trans E10).trans E11) (by omega) ?_
      have hT1 := (hO1.toB.ext ((E9.trans E10).trans E11)); rintro v1 w10 hO1 E12 M1; have E13 := M1.ext hT1 (((((E2.trans E3).trans E6).trans E9).trans E10).trans E11) (by omega); have szE13 := E13.size
      have E14 := M1.ext hT1 ((((E3.trans E6).trans E9).trans E10).trans E11) (by omega); have szE14 := E14.size; have E15 := M1.ext hT1 (((E6.trans E9).trans E10).trans E11) (by omega); have szE15 := E15.size
      have hB1 := (hB1.ext (((((E2.trans E3).trans E6).trans E9).trans E10).trans E11)).moves M1 hT1 (by omega); have hB2 := (hB2.ext ((((E3.trans E6).trans E9).trans E10).trans E11)).moves M1 hT1 (by omega)
      have hB4 := (hB4.ext ((E9.trans E10).trans E11)).moves M1 hT1 (by omega); have hN := (hN.ext ((E9.trans E10).trans E11)).moves M1 hT1 (by omega); have hO2 := (hO2.toB.ext E11).moves M1 hT1 (by omega)
      have hB5 := hB5.moves M1 hT1 (by omega); have hs8 := E12.size; have szM1 := M1.1.size; have icv1 := OwnedB.isC (Owned.toB hO1); refine Wo_nil ?_; refine ⟨E12, ?_⟩
      refine Wh_take 10 rfl (by kernel_rfl) (by kernel_rfl) rfl (fun _ _ => opv_fieldAddr Tryz.underlying28 rfl rfl Tryz.sizeOf23 rfl) E12 ?_; refine Wh_all (rs := [11]) (by kernel_rfl) rfl ?_; refine WhAll_cons rfl ?_ ?_
      refine Wo_st (v := v1) rfl Tryz.sizeOf23 rfl rfl (OwnedB.isC hO1.toB) hB4 (by simp) (by omega) E12 ?_; rintro w11 E16 hB4 K3 hz3; have E17 := E13.wroteAt E12 E16 K3 hz3 (by omega); have szE17 := E17.size
      have E18 := E14.wroteAt E12 E16 K3 hz3 (by omega); have szE18 := E18.size; have E19 := E15.wroteAt E12 E16 K3 hz3 (by omega); have szE19 := E19.size; simp only [List.set] at hB4; have hO1 := hO1.toB.wrote K3 (by omega)
      have hB1 := hB1.of_heap (K3 _ (by omega)); have hB2 := hB2.of_heap (K3 _ (by omega)); have hN := hN.wrote K3 (by omega); have hO2 := hO2.wrote K3 (by omega); have hB5 := hB5.of_heap (K3 _ (by omega)); refine Wo_nil ?_
      refine ⟨E16, ?_⟩; refine Wh_done (by kernel_rfl) ?_; refine W_region rfl ?_; refine Wo rfl (opv_move (v := .int _ _) rfl) ?_; refine Wo rfl (opv_add rfl rfl (by omega)) ?_; refine Wo rfl (opv_assign (v := .int _ _) rfl) ?_
      refine Wo_nil ?_; rotate_left; exact WhAll_nil; exact WhAll_nil; exact WhAll_nil; exact WhAll_nil; exact WhAll_nil; refine WhAll_cons rfl ?_ ?_
      refine Wo (v := u2) rfl (opv_load Tryz.isAgg23 rfl ((hB1.ext (((E2.trans E3).trans E6).trans E9)).cell rfl)) ?_; refine Wo_nil ?_; refine ⟨((((E1.trans E2).trans E3).trans E6).trans E9), ?_⟩
      refine Wh_get 5 6 rfl (by kernel_rfl) (by kernel_rfl) rfl rfl (by kernel_rfl) (by kernel_rfl) (fun _ => rfl) Tryz.underlying23 Tryz.sizeOf22 Tryz.isAgg22 rfl h2 (fun w' hw' => Ext.trans (Ext.refl _) hw') rfl (by first | omega | (simp <;> omega)) ((((E1.trans E2).trans E3).trans E6).trans E9) ?_
      rintro _ u4 hu1; refine Wh_all (rs := [1, 7]) (by kernel_rfl) rfl ?_; refine WhAll_cons rfl ?_ ?_; refine Wo (v := u) rfl (opv_load Tryz.isAgg23 rfl ((hB4.ext E9).cell rfl)) ?_; refine Wo_nil ?_
      refine ⟨((((E1.trans E2).trans E3).trans E6).trans E9), ?_⟩; refine Wh_all (rs := [7]) (by kernel_rfl) rfl ?_; refine WhAll_cons rfl ?_ ?_
      refine Wo_call rfl (opc1 (a := u4) Tryz.call94 rfl) (k2k _ _ ((Mono.mono ((((E1.trans E2).trans E3).trans E6).trans E9) hu1))) ?_; rintro u5 w8 ⟨E10, hO2⟩; have ichO2 := OwnedB.isC (Owned.toB hO2); have hs6 := E10.size
      refine Wo_nil ?_; refine ⟨(((((E1.trans E2).trans E3).trans E6).trans E9).trans E10), ?_⟩; refine Wh_all (rs := [8]) (by kernel_rfl) rfl ?_; refine WhAll_cons rfl ?_ ?_
      refine Wo_buildSlice1 rfl Tryz.underlying23 Tryz.sizeOf22 Tryz.zeroValue22 rfl (OwnedB.isC hO2.toB) rfl ?_; rintro b4 w9 hb4 E11 hB5 hHb4; have hlb4 := hB5.lt; have hs7 := E11.size; refine Wo_nil ?_
      refine ⟨((((((E1.trans E2).trans E3).trans E6).trans E9).trans E10).trans E11), ?_⟩; refine Wh_all (rs := [9]) (by kernel_rfl) rfl ?_; refine WhAll_cons rfl ?_ ?_
      refine Wo_app1 rfl el23 rfl rfl hB5 (hO1.toB.ext ((E9.trans E10).trans E11)) (hO2.toB.ext E11).o (by omega) (by first | omega | (simp <;> omega)) (by omega) (by omega) ((((((E1.trans E2).trans E3).trans E6).trans E9).trans E10).trans E11) (by omega) ?_
      have hT1 := (hO1.toB.ext ((E9.trans E10).trans E11)); rintro v1 w10 hO1 E12 M1; have E13 := M1.ext hT1 (((((E2.trans E3).trans E6).trans E9).trans E10).trans E11) (by omega); have szE13 := E13.size
      have E14 := M1.ext hT1 ((((E3.trans E6).trans E9).trans E10).trans E11) (by omega); have szE14 := E14.size; have E15 := M1.ext hT1 (((E6.trans E9).trans E10).trans E11) (by omega); have szE15 := E15.size
      have hB1 := (hB1.ext (((((E2.trans E3).trans E6).trans E9).trans E10).trans E11)).moves M1 hT1 (by omega); have hB2 := (hB2.ext ((((E3.trans E6).trans E9).trans E10).trans E11)).moves M1 hT1 (by omega)
      have hB4 := (hB4.ext ((E9.trans E10).trans E11)).moves M1 hT1 (by omega); have hN := (hN.ext ((E9.trans E10).trans E11)).moves M1 hT1 (by omega); have hO2 := (hO2.toB.ext E11).moves M1 hT1 (by omega)
      have hB5 := hB5.moves M1 hT1 (by omega); have hs8 := E12.size; have szM1 := M1.1.size; have icv1 := OwnedB.isC (Owned.toB hO1); refine Wo_nil ?_; refine ⟨E12, ?_⟩
      refine Wh_take 10 rfl (by kernel_rfl) (by kernel_rfl) rfl (fun _ _ => opv_fieldAddr Tryz.underlying28 rfl rfl Tryz.sizeOf23 rfl) E12 ?_; refine Wh_all (rs := [11]) (by kernel_rfl) rfl ?_; refine WhAll_cons rfl ?_ ?_
      refine Wo_st (v := v1) rfl Tryz.sizeOf23 rfl rfl (OwnedB.isC hO1.toB) hB4 (by simp) (by omega) E12 ?_; rintro w11 E16 hB4 K3 hz3; have E17 := E13.wroteAt E12 E16 K3 hz3 (by omega); have szE17 := E17.size
      have E18 := E14.wroteAt E12 E16 K3 hz3 (by omega); have szE18 := E18.size; have E19 := E15.wroteAt E12 E16 K3 hz3 (by omega); have szE19 := E19.size; simp only [List.set] at hB4; have hO1 := hO1.toB.wrote K3 (by omega)
      have hB1 := hB1.of_heap (K3 _ (by omega)); have hB2 := hB2.of_heap (K3 _ (by omega)); have hN := hN.wrote K3 (by omega); have hO2 := hO2.wrote K3 (by omega); have hB5 := hB5.of_heap (K3 _ (by omega)); refine Wo_nil ?_
      refine ⟨E16, ?_⟩; refine Wh_done (by kernel_rfl) ?_; refine W_region rfl ?_; refine Wo rfl (opv_move (v := .int _ _) rfl) ?_; refine Wo rfl (opv_add rfl rfl (by omega)) ?_; refine Wo rfl (opv_assign (v := .int _ _) rfl) ?_
      refine Wo_nil ?_; rotate_left; exact WhAll_nil; exact WhAll_nil; exact WhAll_nil; exact WhAll_nil; refine WhAll_cons rfl ?_ ?_
      refine Wo_call rfl (opc1 (a := u4) Tryz.call94 rfl) (k2k _ _ ((Mono.mono ((((E1.trans E2).trans E3).trans E6).trans E9) hu1))) ?_; rintro u5 w8 ⟨E10, hO2⟩; have ichO2 := OwnedB.isC (Owned.toB hO2); have hs6 := E10.size
      refine Wo_nil ?_; refine ⟨(((((E1.trans E2).trans E3).trans E6).trans E9).trans E10), ?_⟩; refine Wh_all (rs := [1, 8]) (by kernel_rfl) rfl ?_; refine WhAll_cons rfl ?_ ?_
      refine Wo (v := u) rfl (opv_load Tryz.isAgg23 rfl ((hB4.ext (E9.trans E10)).cell rfl)) ?_; refine Wo_nil ?_; refine ⟨(((((E1.trans E2).trans E3).trans E6).trans E9).trans E10), ?_⟩; refine Wh_all (rs := [8]) (by kernel_rfl) rfl ?_
      refine WhAll_cons rfl ?_ ?_; refine Wo_buildSlice1 rfl Tryz.underlying23 Tryz.sizeOf22 Tryz.zeroValue22 rfl (OwnedB.isC hO2.toB) rfl ?_; rintro b4 w9 hb4 E11 hB5 hHb4; have hlb4 := hB5.lt; have hs7 := E11.size; refine Wo_nil ?_
      refine ⟨((((((E1.trans E2).trans E3).trans E6).trans E9).trans E10).trans E11), ?_⟩; refine Wh_all (rs := [9]) (by kernel_rfl) rfl ?_; refine WhAll_cons rfl ?_ ?_
      refine Wo_app1 rfl el23 rfl rfl hB5 (hO1.toB.ext ((E9.trans E10).trans E11)) (hO2.toB.ext E11).o (by omega) (by first | omega | (simp <;> omega)) (by omega) (by omega) ((((((E1.trans E2).trans E3).trans E6).trans E9).trans E10).trans E11) (by omega) ?_
      have hT1 := (hO1.toB.ext ((E9.trans E10).trans E11)); rintro v1 w10 hO1 E12 M1; have E13 := M1.ext hT1 (((((E2.trans E3).trans E6).trans E9).trans E10).trans E11) (by omega); have szE13 := E13.size
      have E14 := M1.ext hT1 ((((E3.trans E6).trans E9).trans E10).trans E11) (by omega); have szE14 := E14.size; have E15 := M1.ext hT1 (((E6.trans E9).trans E10).trans E11) (by omega); have szE15 := E15.size
      have hB1 := (hB1.ext (((((E2.trans E3).trans E6).trans E9).trans E10).trans E11)).moves M1 hT1 (by omega); have hB2 := (hB2.ext ((((E3.trans E6).trans E9).trans E10).trans E11)).moves M1 hT1 (by omega)
      have hB4 := (hB4.ext ((E9.trans E10).trans E11)).moves M1 hT1 (by omega); have hN := (hN.ext ((E9.trans E10).trans E11)).moves M1 hT1 (by omega); have hO2 := (hO2.toB.ext E11).moves M1 hT1 (by omega)
      have hB5 := hB5.moves M1 hT1 (by omega); have hs8 := E12.size; have szM1 := M1.1.size; have icv1 := OwnedB.isC (Owned.toB hO1); refine Wo_nil ?_; refine ⟨E12, ?_⟩
      refine Wh_take 10 rfl (by kernel_rfl) (by kernel_rfl) rfl (fun _ _ => opv_fieldAddr Tryz.underlying28 rfl rfl Tryz.sizeOf23 rfl) E12 ?_; refine Wh_all (rs := [11]) (by kernel_rfl) rfl ?_; refine WhAll_cons rfl ?_ ?_
      refine Wo_st (v := v1) rfl Tryz.sizeOf23 rfl rfl (OwnedB.isC hO1.toB) hB4 (by simp) (by omega) E12 ?_; rintro w11 E16 hB4 K3 hz3; have E17 := E13.wroteAt E12 E16 K3 hz3 (by omega); have szE17 := E17.size
      have E18 := E14.wroteAt E12 E16 K3 hz3 (by omega); have szE18 := E18.size; have E19 := E15.wroteAt E12 E16 K3 hz3 (by omega); have szE19 := E19.size; simp only [List.set] at hB4; have hO1 := hO1.toB.wrote K3 (by omega)
      have hB1 := hB1.of_heap (K3 _ (by omega)); have hB2 := hB2.of_heap (K3 _ (by omega)); have hN := hN.wrote K3 (by omega); have hO2 := hO2.wrote K3 (by omega); have hB5 := hB5.of_heap (K3 _ (by omega)); refine Wo_nil ?_
      refine ⟨E16, ?_⟩; refine Wh_done (by kernel_rfl) ?_; refine W_region rfl ?_; refine Wo rfl (opv_move (v := .int _ _) rfl) ?_; refine Wo rfl (opv_add rfl rfl (by omega)) ?_; refine Wo rfl (opv_assign (v := .int _ _) rfl) ?_
      refine Wo_nil ?_; rotate_left; exact WhAll_nil; exact WhAll_nil; exact WhAll_nil; refine WhAll_cons rfl ?_ ?_; refine Wo_buildSlice1 rfl Tryz.underlying23 Tryz.sizeOf22 Tryz.zeroValue22 rfl (OwnedB.isC hO2.toB) rfl ?_
      rintro b4 w9 hb4 E11 hB5 hHb4; have hlb4 := hB5.lt; have hs7 := E11.size; refine Wo_nil ?_; refine ⟨((((((E1.trans E2).trans E3).trans E6).trans E9).trans E10).trans E11), ?_⟩; refine Wh_all (rs := [1]) (by kernel_rfl) rfl ?_
      refine WhAll_cons rfl ?_ ?_; refine Wo (v := u) rfl (opv_load Tryz.isAgg23 rfl ((hB4.ext ((E9.trans E10).trans E11)).cell rfl)) ?_; refine Wo_nil ?_
      refine ⟨((((((E1.trans E2).trans E3).trans E6).trans E9).trans E10).trans E11), ?_⟩; refine Wh_all (rs := [9]) (by kernel_rfl) rfl ?_; refine WhAll_cons rfl ?_ ?_
      refine Wo_app1 rfl el23 rfl rfl hB5 (hO1.toB.ext ((E9.trans E10).trans E11)) (hO2.toB.ext E11).o (by omega) (by first | omega | (simp <;> omega)) (by omega) (by omega) ((((((E1.trans E2).trans E3).trans E6).trans E9).trans E10).trans E11) (by omega) ?_
      have hT1 := (hO1.toB.ext ((E9.trans E10).trans E11)); rintro v1 w10 hO1 E12 M1; have E13 := M1.ext hT1 (((((E2.trans E3).trans E6).trans E9).trans E10).trans E11) (by omega); have szE13 := E13.size
      have E14 := M1.ext hT1 ((((E3.trans E6).trans E9).trans E10).trans E11) (by omega); have szE14 := E14.size; have E15 := M1.ext hT1 (((E6.trans E9).trans E10).trans E11) (by omega); have szE15 := E15.size
      have hB1 := (hB1.ext (((((E2.trans E3).trans E6).trans E9).trans E10).trans E11)).moves M1 hT1 (by omega); have hB2 := (hB2.ext ((((E3.trans E6).trans E9).trans E10).trans E11)).moves M1 hT1 (by omega)
      have hB4 := (hB4.ext ((E9.trans E10).trans E11)).moves M1 hT1 (by omega); have hN := (hN.ext ((E9.trans E10).trans E11)).moves M1 hT1 (by omega); have hO2 := (hO2.toB.ext E11).moves M1 hT1 (by omega)
      have hB5 := hB5.moves M1 hT1 (by omega); have hs8 := E12.size; have szM1 := M1.1.size; have icv1 := OwnedB.isC (Owned.toB hO1); refine Wo_nil ?_; refine ⟨E12, ?_⟩
      refine Wh_take 10 rfl (by kernel_rfl) (by kernel_rfl) rfl (fun _ _ => opv_fieldAddr Tryz.underlying28 rfl rfl Tryz.sizeOf23 rfl) E12 ?_; refine Wh_all (rs := [11]) (by kernel_rfl) rfl ?_; refine WhAll_cons rfl ?_ ?_
      refine Wo_st (v := v1) rfl Tryz.sizeOf23 rfl rfl (OwnedB.isC hO1.toB) hB4 (by simp) (by omega) E12 ?_; rintro w11 E16 hB4 K3 hz3; have E17 := E13.wroteAt E12 E16 K3 hz3 (by omega); have szE17 := E17.size
      have E18 := E14.wroteAt E12 E16 K3 hz3 (by omega); have szE18 := E18.size; have E19 := E15.wroteAt E12 E16 K3 hz3 (by omega); have szE19 := E19.size; simp only [List.set] at hB4; have hO1 := hO1.toB.wrote K3 (by omega)
      have hB1 := hB1.of_heap (K3 _ (by omega)); have hB2 := hB2.of_heap (K3 _ (by omega)); have hN := hN.wrote K3 (by omega); have hO2 := hO2.wrote K3 (by omega); have hB5 := hB5.of_heap (K3 _ (by omega)); refine Wo_nil ?_
      refine ⟨E16, ?_⟩; refine Wh_done (by kernel_rfl) ?_; refine W_region rfl ?_; refine Wo rfl (opv_move (v := .int _ _) rfl) ?_; refine Wo rfl (opv_add rfl rfl (by omega)) ?_; refine Wo rfl (opv_assign (v := .int _ _) rfl) ?_
      refine Wo_nil ?_; rotate_left; exact WhAll_nil; exact WhAll_nil; exact WhAll_nil; exact WhAll_nil; exact WhAll_nil; exact WhAll_nil; (exfalso; omega)
    · refine ⟨((k + 1, v1)), by repeat (first | exact trivial | refine And.intro rfl ?_), by repeat (first | with_reducible exact Same.refl | refine Same.upd rfl ?_ | refine Same.upds rfl ?_ | refine Same.mix rfl ?_), ?_, ?_⟩
      · refine ⟨by exact E19, by omega, by omega, hB4, ?_, hN⟩
        rw [ht]; exact hO1.o
      · simp only; omega
    · refine ⟨((k + 1, v1)), by repeat (first | exact trivial | refine And.intro rfl ?_), by repeat (first | with_reducible exact Same.refl | refine Same.upd rfl ?_ | refine Same.upds rfl ?_ | refine Same.mix rfl ?_), ?_, ?_⟩
      · refine ⟨by exact E19, by omega, by omega, hB4, ?_, hN⟩
        rw [ht]; exact hO1.o
      · simp only; omega
    · refine ⟨((k + 1, v1)), by repeat (first | exact trivial | refine And.intro rfl ?_), by repeat (first | with_reducible exact Same.refl | refine Same.upd rfl ?_ | refine Same.upds rfl ?_ | refine Same.mix rfl ?_), ?_, ?_⟩
      · refine ⟨by exact E19, by omega, by omega, hB4, ?_, hN⟩
        rw [ht]; exact hO1.o
      · simp only; omega
    · refine ⟨((k + 1, v1)), by repeat (first | exact trivial | refine And.intro rfl ?_), by repeat (first | with_reducible exact Same.refl | refine Same.upd rfl ?_ | refine Same.upds rfl ?_ | refine Same.mix rfl ?_), ?_, ?_⟩
      · refine ⟨by exact E19, by omega, by omega, hB4, ?_, hN⟩
        rw [ht]; exact hO1.o
      · simp only; omega
  · obtain rfl : k = past.length := by omega
    rw [List.take_length] at hO1
    focus
      have szE6 := E6.size; have szE8 := E8.size; have szE7 := E7.size; have szE6 := E6.size; have szE5 := E5.size; have szE4 := E4.size; have szE3 := E3.size; have szE2 := E2.size; have szE1 := E1.size; refine W_seq ?_; refine W_seq ?_
      refine W_region rfl ?_; refine Wo rfl (opv_move (v := .int _ _) rfl) ?_; refine Wo rfl (opv_fieldAddr Tryz.underlying28 rfl rfl Tryz.sizeOf23 rfl) ?_
      refine Wo (v := u2) rfl (opv_load Tryz.isAgg23 rfl ((hB1.ext ((E2.trans E3).trans E6)).cell rfl)) ?_; refine Wo rfl (opv_len Tryz.underlying23 rfl h2) ?_; refine Wo rfl (opv_lss rfl rfl) ?_; refine Wo_nil ?_
      refine W_cond_dec rfl (fun h3 => ?_) (fun h3 => ?_); (exfalso; omega); refine W_exit ?_; refine exitX_same ?_; refine W_seq ?_; refine W_region rfl ?_; refine Wo (v := .agg _) rfl (opv_load2 Tryz.isAgg28 Tryz.sizeOf28 rfl hB4) ?_
      refine Wo_st2 rfl Tryz.sizeOf28 rfl rfl (by first | rfl | assumption) (by first | rfl | assumption) (hB2.ext (E3.trans E6)) (by omega) (((E1.trans E2).trans E3).trans E6) ?_; rintro w7 E9 hB2 K2 hz2
      have E10 := ((E2.trans E3).trans E6).wroteAt (((E1.trans E2).trans E3).trans E6) E9 K2 hz2 (by omega); have szE10 := E10.size; have hB1 := (hB1.ext ((E2.trans E3).trans E6)).of_heap (K2 _ (by omega))
      have hB4 := hB4.of_heap (K2 _ (by omega)); have hN := hN.wrote K2 (by omega); have hO1 := hO1.toB.wrote K2 (by omega); refine Wo_nil ?_; refine W_ret ?_
    refine ⟨b2, u3, u, rfl, by assumption, u3, u, w3.heap.size, rfl, by exact E9, ?_, hO1.o.mono (by omega), by omega, by omega⟩
    exact hN.wide (by omega) (Nat.le_refl _)

end Go.Proofs.YtgphoihilheoeaaGreatDoor
