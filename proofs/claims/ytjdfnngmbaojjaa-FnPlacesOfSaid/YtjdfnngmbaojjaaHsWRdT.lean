/- Walks: a picture drawn, perhaps with two equal rows. -/
import Derived.Test.YtjdfnngmbaojjaaHsWRdP
import Derived.Test.YtjdfnngmbaojjaaHsWPic
namespace Go.Proofs.Ytjdfnngmbaojjaa
open Go.Hs
set_option maxRecDepth 10000
set_option maxHeartbeats 4000000
set_option linter.unusedVariables false
set_option linter.unusedSimpArgs false
theorem rowCell {w : World} {ub n uc lo i j : Nat} {rows : List (List Int)} (h : Owned lo XR w (.slice (some ⟨ub, 0, none⟩) n uc) rows) (hi : i < rows.length) (hj : j < rows[i].length) :
    ∃ br cr, RowAt w (.slice (some ⟨ub, 0, none⟩) n uc) i br rows[i].length cr ∧ lo ≤ br ∧ br < w.heap.size ∧ w.cell? ⟨ub, 0 + i, none⟩ = some (.slice (some ⟨br, 0, none⟩) rows[i].length cr) ∧ w.cell? ⟨br, 0 + j, none⟩ = some (.int .i64 rows[i][j]) := by
  obtain ⟨br, cr, h1, h2, h3⟩ := h.rowAt hi (by omega)
  refine ⟨br, cr, h1, h2, h3, ?_, ?_⟩
  · obtain ⟨b, m, c, e, h4, h5⟩ := h1
    cases e
    rw [Nat.zero_add]; exact h5
  · have h6 := (OwnedB.rowOwn h.toB h1 hi).2
    obtain ⟨a, c, e, h7⟩ : Ints w _ rows[i] := OwnedB.read h6
    obtain ⟨b, o, u, h8, h9, h10⟩ := h7.at hj
    cases e
    cases h8
    rw [h9]; exact congrArg some h10

theorem Twin_ok {w0 : World} (w : World) {br m : Nat} (n : Int) (hr : Rdr w0 w br m) (hm : m ≤ 10000000) (hn : 0 ≤ n ∧ n ≤ 1000) :
    Does Try.prog 64 [.pointer (some ⟨br, 0, none⟩), .int .i64 n] w (RetDO w0 w br (m + 63) XR (fun p => p.length ≤ 5 ∧ ∀ r ∈ p, r.length ≤ 6)) := by
  refine fn_of_W1 Try.func64 rfl Try.results64 Try.ntmps64 rfl ?_
  have hG : w.grownBy w (some br) := grownBy_refl _ _
  have hlr := hr.lt
  have hgr := hr.ge
  have E0 := hr.old
  focus
    have szE0 := E0.size; refine W_seq ?_; refine W_region rfl ?_; refine Wo rfl (opv_assign (v := .slice _ _ _) rfl) ?_; refine Wo_nil ?_; refine W_seq ?_; refine W_region rfl ?_; refine Wo rfl (opv_move (v := .pointer _) rfl) ?_
    refine Wo rfl (opv_move (v := .int _ _) rfl) ?_; refine Wo_call rfl (opc2 (a := .pointer _) (b := .int _ _) Try.call82 rfl rfl) (Picture_ok _ _ (by assumption) (by omega) (by assumption)) ?_; rintro u1 w1 ⟨E1, hr1, x1, hO1, hy1⟩
    (try dsimp only at hy1); have hlhr1 := hr1.lt; have Ehr1 := hr1.old; have hG := grownBy_trans hG E1; have hs1 := E1.size; refine Wo rfl (opv_assign (v := u1) rfl) ?_; refine Wo_nil ?_; refine W_seq ?_; refine W_seq ?_
    refine W_region rfl ?_; refine Wo rfl (opv_move (v := u1) rfl) ?_
  by_cases hp : Pic x1
  · have hk : ∀ w u, ESl Ints w u x1 → Does Try.prog 39 [u] w (Ret w (.bool true)) := fun w u h => by
      have := PictureOk_ok w u x1 h
      rw [decide_eq_true hp] at this; exact this
    focus
      have szEhr1 := Ehr1.size; have szE0 := E0.size; refine Wo_call rfl (opc1 (a := u1) Try.call39 rfl) (hk _ _ ((Owned.read hO1))) ?_; rintro _ w2 ⟨rfl, E2⟩; have hr1 := hr1.ext E2; have hG := grownBy_ext hG E2; have hs2 := E2.size
      refine Wo rfl (opv_move (v := .bool _) rfl) ?_; refine Wo rfl (opv_move (v := u1) rfl) ?_; refine Wo rfl (opv_len Try.underlying30 rfl (Owned.read hO1)) ?_; refine Wo rfl (opv_gtr rfl rfl) ?_
      refine Wo rfl (opv_pick_t (v := .bool _) rfl rfl) ?_; refine Wo_split_dec rfl (opv_move (v := .bool _) rfl) (fun h1 => ?_) (fun h1 => ?_); refine Wo rfl (opv_move (v := .pointer _) rfl) ?_
      refine Wo_call rfl (opc2 (a := .pointer _) (b := .int _ _) Try.call76 rfl rfl) (pick_ok _ _ (by assumption) (by omega)) ?_; rintro _ w3 ⟨y1, rfl, E3, hr2, hy2⟩; (try dsimp only at hy2); have hlhr2 := hr2.lt; have Ehr2 := hr2.old
      have hO1 := (hO1.toB.ext E2).grown E3 (by omega); have hG := grownBy_trans hG E3; have hs3 := E3.size; refine Wo rfl (opv_eql rfl rfl) ?_; refine Wo rfl (opv_pick_t (v := .bool _) rfl rfl) ?_; refine Wo_nil ?_
      refine W_cond_dec rfl (fun h2 => ?_) (fun h2 => ?_); refine W_seq ?_; refine W_region rfl ?_; refine Wo rfl (opv_move (v := .pointer _) rfl) ?_; refine Wo rfl (opv_move (v := u1) rfl) ?_
      refine Wo rfl (opv_len Try.underlying30 rfl (OwnedB.read hO1)) ?_; refine Wo_call rfl (opc2 (a := .pointer _) (b := .int _ _) Try.call76 rfl rfl) (pick_ok _ _ (by assumption) (by omega)) ?_; rintro _ w4 ⟨y2, rfl, E4, hr3, hy3⟩
      (try dsimp only at hy3); have hlhr3 := hr3.lt; have Ehr3 := hr3.old; have hO1 := hO1.grown E4 (by omega); have hG := grownBy_trans hG E4; have hs4 := E4.size; refine Wo rfl (opv_assign (v := .int _ _) rfl) ?_; refine Wo_nil ?_
      refine W_seq ?_; refine W_region rfl ?_; refine Wo rfl (opv_move (v := .pointer _) rfl) ?_; refine Wo rfl (opv_move (v := u1) rfl) ?_; refine Wo rfl (opv_len Try.underlying30 rfl (OwnedB.read hO1)) ?_
      refine Wo_call rfl (opc2 (a := .pointer _) (b := .int _ _) Try.call76 rfl rfl) (pick_ok _ _ (by assumption) (by omega)) ?_; rintro _ w5 ⟨y3, rfl, E5, hr4, hy4⟩; (try dsimp only at hy4); have hlhr4 := hr4.lt; have Ehr4 := hr4.old
      have hO1 := hO1.grown E5 (by omega); have hG := grownBy_trans hG E5; have hs5 := E5.size; refine Wo rfl (opv_assign (v := .int _ _) rfl) ?_; refine Wo_nil ?_; refine W_seq ?_; refine W_region rfl ?_
      refine Wo rfl (opv_assign (v := .int _ _) rfl) ?_; refine Wo_nil ?_; refine W_block ?_; rotate_left; refine W_skip ?_; refine W_seq ?_; refine W_region rfl ?_; refine Wo rfl (opv_move (v := u1) rfl) ?_
      refine Wo rfl (opv_assign (v := u1) rfl) ?_; refine Wo_nil ?_; refine W_ret ?_; refine at_ret (v := u1) rfl ?_; rotate_left; refine Wo_skip rfl ?_; refine Wo_skip rfl ?_; refine Wo_skip rfl ?_
      refine Wo rfl (opv_pick_f (v := .bool _) rfl rfl) ?_; refine Wo_nil ?_; refine W_cond_false rfl ?_; refine W_skip ?_; refine W_seq ?_; refine W_region rfl ?_; refine Wo rfl (opv_move (v := u1) rfl) ?_
      refine Wo rfl (opv_assign (v := u1) rfl) ?_; refine Wo_nil ?_; refine W_ret ?_; refine at_ret (v := u1) rfl ?_; rotate_left
    · have hy3' := hy3 (by omega)
      have hy4' := hy4 (by omega)
      have hlen : ∀ r ∈ x1, r.length = x1.length := fun r hr => (hp.2.2 r hr).1
      clear hp hk
      refine W_loop [8, 32, 33, 34, 35, 36, 37, 38, 39, 40, 41, 42, 43, 44, 45, 46, 47, 48, 49, 50] (fun (j, rows) => [(8, .int .i64 (j : Nat))]) (fun (j, rows) w' => w.grownBy w' (some br) ∧ Rdr w0 w' br (m + 63) ∧ j ≤ x1.length ∧ Owned w.heap.size XR w' u1 rows ∧ rows.length = x1.length ∧ ∀ r ∈ rows, r.length = x1.length) (fun x => x1.length - x.1) (0, x1) (by repeat (first | exact trivial | refine And.intro rfl ?_)) ?_ ?_
      · exact ⟨hG, hr4, Nat.zero_le _, hO1.o, rfl, hlen⟩
      rintro ⟨j, rows⟩ ρj w6 ⟨hG6, hr6, hj, hO6, hrl, hrr⟩
      have E6 := hr6.old
      have hg6 := hG6.size
      by_cases hlt : j < x1.length
      · obtain ⟨ub, uc, rfl, _⟩ := hO6.lit (by omega)
        have hub := hO6.lt_own (k := ub) rfl
        have hrb := hrr rows[y3] (List.getElem_mem (by omega))
        have hra := hrr rows[y2] (List.getElem_mem (by omega))
        have hset : ∀ r' : List Int, r'.length = x1.length → ∀ r ∈ rows.set y3 r', r.length = x1.length := by
          intro r' h9 r hr9
          rcases List.mem_or_eq_of_mem_set hr9 with h | h
          · exact hrr r h
          · rw [h]; exact h9
        focus
          have szE6 := E6.size; have szEhr4 := Ehr4.size; have szEhr3 := Ehr3.size; have szEhr2 := Ehr2.size; have szE2 := E2.size; have szEhr1 := Ehr1.size; have szE0 := E0.size; refine W_seq ?_; refine W_seq ?_; refine W_region rfl ?_
          refine Wo rfl (opv_move (v := .int _ _) rfl) ?_; refine Wo rfl (opv_move (v := .slice _ _ _) rfl) ?_; refine Wo rfl (opv_len Try.underlying30 rfl (Owned.read hO6)) ?_; refine Wo rfl (opv_lss rfl rfl) ?_; refine Wo_nil ?_
          refine W_cond_dec rfl (fun h3 => ?_) (fun h3 => ?_); refine W_skip ?_; refine W_seq ?_; refine W_block ?_; refine W_held (fun _ => True) mixed rfl (by kernel_rfl) ?_; intro w7 E7 K1 hz1; have hG6 := grownBy_ext hG6 E7
          have hr6 := hr6.ext E7; have hs6 := E7.size; refine Wh_take 0 rfl (by kernel_rfl) (by kernel_rfl) rfl (fun _ _ => opv_move (v := .slice _ _ _) rfl) trivial ?_
          refine Wh_take 1 rfl (by kernel_rfl) (by kernel_rfl) rfl (fun _ _ => opv_move (v := .int _ _) rfl) trivial ?_
          refine Wh_take 2 rfl (by kernel_rfl) (by kernel_rfl) rfl (fun _ _ => opv_indexAddr Try.underlying30 Try.sizeOf38 rfl rfl (by omega)) trivial ?_
          refine Wh_take 4 rfl (by kernel_rfl) (by kernel_rfl) rfl (fun _ _ => opv_move (v := .int _ _) rfl) trivial ?_; refine Wh_take 5 rfl (by kernel_rfl) (by kernel_rfl) rfl (fun _ _ => opv_move (v := .slice _ _ _) rfl) trivial ?_
          refine Wh_take 6 rfl (by kernel_rfl) (by kernel_rfl) rfl (fun _ _ => opv_move (v := .int _ _) rfl) trivial ?_
          refine Wh_take 7 rfl (by kernel_rfl) (by kernel_rfl) rfl (fun _ _ => opv_indexAddr Try.underlying30 Try.sizeOf38 rfl rfl (by omega)) trivial ?_
          refine Wh_take 9 rfl (by kernel_rfl) (by kernel_rfl) rfl (fun _ _ => opv_move (v := .int _ _) rfl) trivial ?_; refine Wh_all (rs := [3, 8]) (by kernel_rfl) rfl ?_; refine WhAll_cons rfl ?_ ?_; rotate_left
          refine WhAll_cons rfl ?_ ?_; rotate_left; exact WhAll_nil; (exfalso; omega)
        all_goals
          have hO7 := hO6.ext E7
          obtain ⟨bra, cra, hRa, ha1, ha2, ha3, ha4⟩ := rowCell hO7 (i := y2) (j := j) (by omega) (by omega)
          obtain ⟨brb, crb, hRb, hb1, hb2, hb3, hb4⟩ := rowCell hO7 (i := y3) (j := j) (by omega) (by omega)
        · focus
            have szE7 := E7.size; have szE6 := E6.size; have szEhr4 := Ehr4.size; have szEhr3 := Ehr3.size; have szEhr2 := Ehr2.size; have szE2 := E2.size; have szEhr1 := Ehr1.size; have szE0 := E0.size
            refine Wo rfl (opv_load Try.isAgg38 rfl (by assumption)) ?_; refine Wo_nil ?_; refine ⟨trivial, ?_⟩; refine Wh_all (rs := [8]) (by kernel_rfl) rfl ?_; refine WhAll_cons rfl ?_ ?_
            refine Wo rfl (opv_load Try.isAgg38 rfl (by assumption)) ?_; refine Wo_nil ?_; refine ⟨trivial, ?_⟩
            refine Wh_take 10 rfl (by kernel_rfl) (by kernel_rfl) rfl (fun _ _ => opv_indexAddr Try.underlying38 Try.sizeOf3 rfl rfl (by omega)) trivial ?_; refine Wh_all (rs := [11]) (by kernel_rfl) rfl ?_; refine WhAll_cons rfl ?_ ?_
            refine Wo rfl (opv_load Try.isAgg3 rfl (by assumption)) ?_; refine Wo_nil ?_; refine ⟨trivial, ?_⟩
            refine Wh_take 12 rfl (by kernel_rfl) (by kernel_rfl) rfl (fun _ _ => opv_indexAddr Try.underlying38 Try.sizeOf3 rfl rfl (by omega)) trivial ?_; refine Wh_all (rs := [13]) (by kernel_rfl) rfl ?_; refine WhAll_cons rfl ?_ ?_
            refine Wo_gset rfl Try.sizeOf3 rfl rfl (hO6.toB.ext E7) hRb (by first | omega | (simp <;> omega)) (by first | omega | (simp <;> omega)) ?_; rintro w8 hO6 hRb On1 K2 hz2; have E8 := On1.ext1 (E6.trans E7) (by omega)
            have hG6 := grownBy_wrote hG6 (E6.trans E7) E8 K2 hz2 (by first | exact .inr rfl | omega); have hr6 := hr6.wrote E8 (K2 _ (by omega)) hz2; have hs7 := On1.size; refine Wo_nil ?_; refine ⟨trivial, ?_⟩
            refine Wh_done (by kernel_rfl) ?_; refine W_region rfl ?_; refine Wo rfl (opv_move (v := .int _ _) rfl) ?_; refine Wo rfl (opv_add rfl rfl (by omega)) ?_; refine Wo rfl (opv_assign (v := .int _ _) rfl) ?_; refine Wo_nil ?_
            rotate_left; exact WhAll_nil; exact WhAll_nil; exact WhAll_nil
          refine ⟨((j + 1, rows.set y3 (rows[y3].set j rows[y2][j]))), by repeat (first | exact trivial | refine And.intro rfl ?_), by repeat (first | with_reducible exact Same.refl | refine Same.upd rfl ?_ | refine Same.upds rfl ?_ | refine Same.mix rfl ?_), ?_, ?_⟩
          · exact ⟨hG6, hr6, by omega, hO6, by simp [hrl], hset _ (by simp [hrb])⟩
          · simp only; omega
        · focus
            have szE7 := E7.size; have szE6 := E6.size; have szEhr4 := Ehr4.size; have szEhr3 := Ehr3.size; have szEhr2 := Ehr2.size; have szE2 := E2.size; have szEhr1 := Ehr1.size; have szE0 := E0.size
            refine Wo rfl (opv_load Try.isAgg38 rfl (by assumption)) ?_; refine Wo_nil ?_; refine ⟨trivial, ?_⟩
            refine Wh_take 10 rfl (by kernel_rfl) (by kernel_rfl) rfl (fun _ _ => opv_indexAddr Try.underlying38 Try.sizeOf3 rfl rfl (by omega)) trivial ?_; refine Wh_all (rs := [3, 11]) (by kernel_rfl) rfl ?_; refine WhAll_cons rfl ?_ ?_
            refine Wo rfl (opv_load Try.isAgg38 rfl (by assumption)) ?_; refine Wo_nil ?_; refine ⟨trivial, ?_⟩; refine Wh_all (rs := [11]) (by kernel_rfl) rfl ?_; refine WhAll_cons rfl ?_ ?_
            refine Wo rfl (opv_load Try.isAgg3 rfl (by assumption)) ?_; refine Wo_nil ?_; refine ⟨trivial, ?_⟩
            refine Wh_take 12 rfl (by kernel_rfl) (by kernel_rfl) rfl (fun _ _ => opv_indexAddr Try.underlying38 Try.sizeOf3 rfl rfl (by omega)) trivial ?_; refine Wh_all (rs := [13]) (by kernel_rfl) rfl ?_; refine WhAll_cons rfl ?_ ?_
            refine Wo_gset rfl Try.sizeOf3 rfl rfl (hO6.toB.ext E7) hRb (by first | omega | (simp <;> omega)) (by first | omega | (simp <;> omega)) ?_; rintro w8 hO6 hRb On1 K2 hz2; have E8 := On1.ext1 (E6.trans E7) (by omega)
            have hG6 := grownBy_wrote hG6 (E6.trans E7) E8 K2 hz2 (by first | exact .inr rfl | omega); have hr6 := hr6.wrote E8 (K2 _ (by omega)) hz2; have hs7 := On1.size; refine Wo_nil ?_; refine ⟨trivial, ?_⟩
            refine Wh_done (by kernel_rfl) ?_; refine W_region rfl ?_; refine Wo rfl (opv_move (v := .int _ _) rfl) ?_; refine Wo rfl (opv_add rfl rfl (by omega)) ?_; refine Wo rfl (opv_assign (v := .int _ _) rfl) ?_; refine Wo_nil ?_
            rotate_left; exact WhAll_nil; exact WhAll_nil; refine WhAll_cons rfl ?_ ?_; refine Wo rfl (opv_load Try.isAgg3 rfl (by assumption)) ?_; refine Wo_nil ?_; refine ⟨trivial, ?_⟩; refine Wh_all (rs := [3]) (by kernel_rfl) rfl ?_
            refine WhAll_cons rfl ?_ ?_; refine Wo rfl (opv_load Try.isAgg38 rfl (by assumption)) ?_; refine Wo_nil ?_; refine ⟨trivial, ?_⟩
            refine Wh_take 12 rfl (by kernel_rfl) (by kernel_rfl) rfl (fun _ _ => opv_indexAddr Try.underlying38 Try.sizeOf3 rfl rfl (by omega)) trivial ?_; refine Wh_all (rs := [13]) (by kernel_rfl) rfl ?_; refine WhAll_cons rfl ?_ ?_
            refine Wo_gset rfl Try.sizeOf3 rfl rfl (hO6.toB.ext E7) hRb (by first | omega | (simp <;> omega)) (by first | omega | (simp <;> omega)) ?_; rintro w8 hO6 hRb On1 K2 hz2; have E8 := On1.ext1 (E6.trans E7) (by omega)
            have hG6 := grownBy_wrote hG6 (E6.trans E7) E8 K2 hz2 (by first | exact .inr rfl | omega); have hr6 := hr6.wrote E8 (K2 _ (by omega)) hz2; have hs7 := On1.size; refine Wo_nil ?_; refine ⟨trivial, ?_⟩
            refine Wh_done (by kernel_rfl) ?_; refine W_region rfl ?_; refine Wo rfl (opv_move (v := .int _ _) rfl) ?_; refine Wo rfl (opv_add rfl rfl (by omega)) ?_; refine Wo rfl (opv_assign (v := .int _ _) rfl) ?_; refine Wo_nil ?_
            rotate_left; exact WhAll_nil; exact WhAll_nil; exact WhAll_nil
          · refine ⟨((j + 1, rows.set y3 (rows[y3].set j rows[y2][j]))), by repeat (first | exact trivial | refine And.intro rfl ?_), by repeat (first | with_reducible exact Same.refl | refine Same.upd rfl ?_ | refine Same.upds rfl ?_ | refine Same.mix rfl ?_), ?_, ?_⟩
            · exact ⟨hG6, hr6, by omega, hO6, by simp [hrl], hset _ (by simp [hrb])⟩
            · simp only; omega
          · refine ⟨((j + 1, rows.set y3 (rows[y3].set j rows[y2][j]))), by repeat (first | exact trivial | refine And.intro rfl ?_), by repeat (first | with_reducible exact Same.refl | refine Same.upd rfl ?_ | refine Same.upds rfl ?_ | refine Same.mix rfl ?_), ?_, ?_⟩
            · exact ⟨hG6, hr6, by omega, hO6, by simp [hrl], hset _ (by simp [hrb])⟩
            · simp only; omega
      · obtain rfl : j = x1.length := by omega
        focus
          have szE6 := E6.size; have szEhr4 := Ehr4.size; have szEhr3 := Ehr3.size; have szEhr2 := Ehr2.size; have szE2 := E2.size; have szEhr1 := Ehr1.size; have szE0 := E0.size; refine W_seq ?_; refine W_seq ?_; refine W_region rfl ?_
          refine Wo rfl (opv_move (v := .int _ _) rfl) ?_; refine Wo rfl (opv_move (v := u1) rfl) ?_; refine Wo rfl (opv_len Try.underlying30 rfl (Owned.read hO6)) ?_; refine Wo rfl (opv_lss rfl rfl) ?_; refine Wo_nil ?_
          refine W_cond_dec rfl (fun h3 => ?_) (fun h3 => ?_); (exfalso; omega); refine W_exit ?_; refine exitX_same ?_; refine W_seq ?_; refine W_region rfl ?_; refine Wo rfl (opv_move (v := u1) rfl) ?_
          refine Wo rfl (opv_assign (v := u1) rfl) ?_; refine Wo_nil ?_; refine W_ret ?_; refine at_ret (v := u1) rfl ?_
        exact ⟨hG6, hr6, _, hO6, by omega, fun r h => by have := hrr r h; omega⟩
    · exact ⟨hG, hr2.le (by omega), _, hO1.o, hy1⟩
    · exact ⟨hG, hr1.le (by omega), _, hO1.ext E2, hy1⟩
  · have hk : ∀ w u, ESl Ints w u x1 → Does Try.prog 39 [u] w (Ret w (.bool false)) := fun w u h => by
      have := PictureOk_ok w u x1 h
      rw [decide_eq_false hp] at this; exact this
    focus
      have szEhr1 := Ehr1.size; have szE0 := E0.size; refine Wo_call rfl (opc1 (a := u1) Try.call39 rfl) (hk _ _ ((Owned.read hO1))) ?_; rintro _ w2 ⟨rfl, E2⟩; have hr1 := hr1.ext E2; have hG := grownBy_ext hG E2; have hs2 := E2.size
      refine Wo rfl (opv_move (v := .bool _) rfl) ?_; refine Wo_skip rfl ?_; refine Wo_skip rfl ?_; refine Wo_skip rfl ?_; refine Wo rfl (opv_pick_f (v := .bool _) rfl rfl) ?_; refine Wo rfl (opv_move (v := .bool _) rfl) ?_
      refine Wo_skip rfl ?_; refine Wo_skip rfl ?_; refine Wo_skip rfl ?_; refine Wo rfl (opv_pick_f (v := .bool _) rfl rfl) ?_; refine Wo_nil ?_; refine W_cond_false rfl ?_; refine W_skip ?_; refine W_seq ?_; refine W_region rfl ?_
      refine Wo rfl (opv_move (v := u1) rfl) ?_; refine Wo rfl (opv_assign (v := u1) rfl) ?_; refine Wo_nil ?_; refine W_ret ?_; refine at_ret (v := u1) rfl ?_
    exact ⟨hG, hr1.le (by omega), _, hO1.ext E2, hy1⟩

end Go.Proofs.Ytjdfnngmbaojjaa
