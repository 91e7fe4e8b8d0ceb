/- Walks: the draws' reader. -/

import Derived.Test.YtlalfmialbolhaaProg

import Derived.Test.YtlalfmialbolhaaHsHeld
namespace Go.Proofs.Ytlalfmialbolhaa
open Go.Hs
set_option maxRecDepth 10000
set_option maxHeartbeats 4000000
set_option linter.unusedVariables false

theorem mixed : Try.prog.follows .mixedOrders = true := by kernel_rfl

theorem pick_ok {w0 : World} (w : World) {br m : Nat} (n : Int) (hr : Rdr w0 w br m) (hm : m ≤ 1000000000) :
    Does Try.prog 52 [.pointer (some ⟨br, 0, none⟩), .int .i64 n] w (RetD w0 w br (m + 1) (fun x : Nat => .int .i64 (x : Int)) (fun x _ => 1 ≤ n → (x : Int) < n)) := by
  obtain ⟨E0, hge, hlt, vb, bs, p, hb, hlen, hB, hp⟩ := hr
  have hbs := hb.le
  refine fn_of_W1 Try.func52 rfl Try.results52 Try.ntmps52 rfl ?_
  have hG : w.grownBy w (some br) := grownBy_refl _ _
  have hp1 : (p : Int) + 1 - 1 = p := by omega
  rcases Nat.eq_zero_or_pos bs.length with h0 | h0
  · have e0 : bs = [] := List.eq_nil_of_length_eq_zero h0
    focus
      have szE0 := E0.size; refine W_seq ?_; refine W_region rfl ?_; refine Wo rfl (opv_assign (v := .int _ _) rfl) ?_; refine Wo_nil ?_; refine W_seq ?_; refine W_region rfl ?_; refine Wo rfl (opv_move (v := .pointer _) rfl) ?_
      refine Wo rfl (opv_move (v := .pointer _) rfl) ?_; refine Wo rfl (opv_nilCheck rfl) ?_; refine Wo rfl (opv_fieldAddr Try.underlying73 rfl rfl Try.sizeOf3 rfl) ?_
      refine Wo (v := .int _ _) rfl (opv_load Try.isAgg3 rfl (hB.cell rfl)) ?_; refine Wo rfl (opv_add rfl rfl (by omega)) ?_; refine Wo rfl (opv_nilCheck rfl) ?_; refine Wo rfl (opv_fieldAddr Try.underlying73 rfl rfl Try.sizeOf3 rfl) ?_
      refine Wo_st (v := .int _ _) rfl Try.sizeOf3 rfl rfl rfl hB (by simp) (by omega) E0 ?_; rintro w1 E1 hB K1 hz1; simp only [List.set] at hB; have hG := grownBy_wrote hG E0 E1 K1 hz1 (by first | exact .inr rfl | omega)
      refine Wo_nil ?_; refine W_seq ?_; refine W_seq ?_; refine W_region rfl ?_; refine Wo rfl (opv_move (v := .int _ _) rfl) ?_; refine Wo rfl (opv_lss rfl rfl) ?_
      refine Wo_split_dec rfl (opv_move (v := .bool _) rfl) (fun h1 => ?_) (fun h1 => ?_); refine Wo_skip rfl ?_; refine Wo_skip rfl ?_; refine Wo_skip rfl ?_; refine Wo_skip rfl ?_; refine Wo_skip rfl ?_; refine Wo_skip rfl ?_
      refine Wo rfl (opv_pick_t (v := .bool _) rfl rfl) ?_; refine Wo_nil ?_; refine W_cond_true rfl ?_; refine W_seq ?_; refine W_region rfl ?_; refine Wo rfl (opv_assign (v := .int _ _) rfl) ?_; refine Wo_nil ?_; refine W_ret ?_
      refine at_ret (v := .int _ _) rfl ?_; rotate_left; refine Wo rfl (opv_move (v := .pointer _) rfl) ?_; refine Wo rfl (opv_nilCheck rfl) ?_; refine Wo rfl (opv_fieldAddr Try.underlying73 rfl rfl Try.sizeOf22 rfl) ?_
      refine Wo (v := vb) rfl (opv_load Try.isAgg22 rfl (hB.cell rfl)) ?_; refine Wo rfl (opv_len Try.underlying22 rfl hb) ?_; refine Wo rfl (opv_eql rfl rfl) ?_; refine Wo rfl (opv_pick_f (v := .bool _) rfl rfl) ?_; refine Wo_nil ?_
      refine W_cond_dec rfl (fun h2 => ?_) (fun h2 => ?_); refine W_seq ?_; refine W_region rfl ?_; refine Wo rfl (opv_assign (v := .int _ _) rfl) ?_; refine Wo_nil ?_; refine W_ret ?_; refine at_ret (v := .int _ _) rfl ?_; rotate_left
      (exfalso; omega)
    all_goals exact ⟨0, rfl, hG, ⟨by assumption, hge, hB.lt, vb, bs, p + 1, hb, hlen, hB, by omega⟩, fun h => by omega⟩
  have hL : (0 : Int) < (bs.length : Int) := by omega
  have hm1 := Int.emod_lt_of_pos (p : Int) hL
  have hm2 := Int.emod_nonneg (p : Int) (show (bs.length : Int) ≠ 0 by omega)
  have hm3 := Int.emod_lt_of_pos ((p : Int) * 7 + 3) hL
  have hm4 := Int.emod_nonneg ((p : Int) * 7 + 3) (show (bs.length : Int) ≠ 0 by omega)
  have hm5 : (p : Int) / (bs.length : Int) ≤ p := Int.ediv_le_self _ (by omega)
  have hm6 : 0 ≤ (p : Int) / (bs.length : Int) := Int.ediv_nonneg (by omega) (by omega)
  have hm1 := Int.emod_lt_of_pos ((p : Int) + 1 - 1) hL
  have hm2 := Int.emod_nonneg ((p : Int) + 1 - 1) (show (bs.length : Int) ≠ 0 by omega)
  have hm3 := Int.emod_lt_of_pos (((p : Int) + 1 - 1) * 7 + 3) hL
  have hm4 := Int.emod_nonneg (((p : Int) + 1 - 1) * 7 + 3) (show (bs.length : Int) ≠ 0 by omega)
  have hm5 : ((p : Int) + 1 - 1) / (bs.length : Int) ≤ p := by rw [hp1]; exact hm5
  have hm6 : 0 ≤ ((p : Int) + 1 - 1) / (bs.length : Int) := by rw [hp1]; exact hm6
  focus
    have szE0 := E0.size; refine W_seq ?_; refine W_region rfl ?_; refine Wo rfl (opv_assign (v := .int _ _) rfl) ?_; refine Wo_nil ?_; refine W_seq ?_; refine W_region rfl ?_; refine Wo rfl (opv_move (v := .pointer _) rfl) ?_
    refine Wo rfl (opv_move (v := .pointer _) rfl) ?_; refine Wo rfl (opv_nilCheck rfl) ?_; refine Wo rfl (opv_fieldAddr Try.underlying73 rfl rfl Try.sizeOf3 rfl) ?_
    refine Wo (v := .int _ _) rfl (opv_load Try.isAgg3 rfl (hB.cell rfl)) ?_; refine Wo rfl (opv_add rfl rfl (by omega)) ?_; refine Wo rfl (opv_nilCheck rfl) ?_; refine Wo rfl (opv_fieldAddr Try.underlying73 rfl rfl Try.sizeOf3 rfl) ?_
    refine Wo_st (v := .int _ _) rfl Try.sizeOf3 rfl rfl rfl hB (by simp) (by omega) E0 ?_; rintro w1 E1 hB K1 hz1; simp only [List.set] at hB; have hG := grownBy_wrote hG E0 E1 K1 hz1 (by first | exact .inr rfl | omega)
    refine Wo_nil ?_; refine W_seq ?_; refine W_seq ?_; refine W_region rfl ?_; refine Wo rfl (opv_move (v := .int _ _) rfl) ?_; refine Wo rfl (opv_lss rfl rfl) ?_
    refine Wo_split_dec rfl (opv_move (v := .bool _) rfl) (fun h1 => ?_) (fun h1 => ?_); refine Wo_skip rfl ?_; refine Wo_skip rfl ?_; refine Wo_skip rfl ?_; refine Wo_skip rfl ?_; refine Wo_skip rfl ?_; refine Wo_skip rfl ?_
    refine Wo rfl (opv_pick_t (v := .bool _) rfl rfl) ?_; refine Wo_nil ?_; refine W_cond_true rfl ?_; refine W_seq ?_; refine W_region rfl ?_; refine Wo rfl (opv_assign (v := .int _ _) rfl) ?_; refine Wo_nil ?_; refine W_ret ?_
    refine at_ret (v := .int _ _) rfl ?_; rotate_left; refine Wo rfl (opv_move (v := .pointer _) rfl) ?_; refine Wo rfl (opv_nilCheck rfl) ?_; refine Wo rfl (opv_fieldAddr Try.underlying73 rfl rfl Try.sizeOf22 rfl) ?_
    refine Wo (v := vb) rfl (opv_load Try.isAgg22 rfl (hB.cell rfl)) ?_; refine Wo rfl (opv_len Try.underlying22 rfl hb) ?_; refine Wo rfl (opv_eql rfl rfl) ?_; refine Wo rfl (opv_pick_f (v := .bool _) rfl rfl) ?_; refine Wo_nil ?_
    refine W_cond_dec rfl (fun h2 => ?_) (fun h2 => ?_); (exfalso; omega); refine W_skip ?_; refine W_seq ?_; refine W_region rfl ?_; refine Wo rfl (opv_move (v := .pointer _) rfl) ?_; refine Wo rfl (opv_nilCheck rfl) ?_
    refine Wo rfl (opv_fieldAddr Try.underlying73 rfl rfl Try.sizeOf3 rfl) ?_; refine Wo (v := .int _ _) rfl (opv_load Try.isAgg3 rfl (hB.cell rfl)) ?_; refine Wo rfl (opv_sub rfl rfl (by omega)) ?_
    refine Wo rfl (opv_assign (v := .int _ _) rfl) ?_; refine Wo_nil ?_; refine W_seq ?_; refine W_seq ?_; refine W_region rfl ?_; refine Wo rfl (opv_move (v := .int _ _) rfl) ?_; refine Wo rfl (opv_move (v := .pointer _) rfl) ?_
    refine Wo rfl (opv_nilCheck rfl) ?_; refine Wo rfl (opv_fieldAddr Try.underlying73 rfl rfl Try.sizeOf22 rfl) ?_; refine Wo (v := vb) rfl (opv_load Try.isAgg22 rfl (hB.cell rfl)) ?_; refine Wo rfl (opv_len Try.underlying22 rfl hb) ?_
    refine Wo rfl (opv_lss rfl rfl) ?_; refine Wo_nil ?_; refine W_cond_dec rfl (fun h3 => ?_) (fun h3 => ?_); refine W_seq ?_; refine W_region rfl ?_; refine Wo rfl (opv_move (v := .pointer _) rfl) ?_
    refine Wo rfl (opv_nilCheck rfl) ?_; refine Wo rfl (opv_fieldAddr Try.underlying73 rfl rfl Try.sizeOf22 rfl) ?_; refine Wo (v := vb) rfl (opv_load Try.isAgg22 rfl (hB.cell rfl)) ?_; refine Wo rfl (opv_move (v := .int _ _) rfl) ?_
    refine Wo_getB_z Try.underlying22 Try.sizeOf5 Try.isAgg5 rfl (fun _ => rfl) rfl hb E1 rfl (by first | omega | (simp <;> omega)) ?_; rintro _ n1 hn1 hn1'; refine Wo rfl (opv_conv_int Try.underlying5 Try.underlying3 rfl (by omega)) ?_
    refine Wo rfl (opv_move (v := .int _ _) rfl) ?_; refine Wo rfl (opv_rem rfl rfl (by omega)) ?_; refine Wo rfl (opv_assign (v := .int _ _) rfl) ?_; refine Wo_nil ?_; refine W_ret ?_; refine at_ret (v := .int _ _) rfl ?_; rotate_left
    refine W_skip ?_; refine W_seq ?_; refine W_draw mixed (by kernel_rfl) rfl ?_; refine Wq_o rfl (fun _ _ => opv_move (v := .pointer _) rfl) ?_; refine Wq_o rfl (fun _ _ => opv_nilCheck rfl) ?_
    refine Wq_o rfl (fun _ _ => opv_fieldAddr Try.underlying73 rfl rfl Try.sizeOf22 rfl) ?_; refine Wq_o (v := vb) rfl (fun w' hw' => opv_load Try.isAgg22 rfl ((hB.ext hw').cell rfl)) ?_
    refine Wq_o rfl (fun _ _ => opv_move (v := .int _ _) rfl) ?_; refine Wq_o rfl (fun _ _ => opv_move (v := .pointer _) rfl) ?_; refine Wq_o rfl (fun _ _ => opv_nilCheck rfl) ?_
    refine Wq_o rfl (fun _ _ => opv_fieldAddr Try.underlying73 rfl rfl Try.sizeOf22 rfl) ?_; refine Wq_o (v := vb) rfl (fun w' hw' => opv_load Try.isAgg22 rfl ((hB.ext hw').cell rfl)) ?_
    refine Wq_o rfl (fun _ _ => opv_len Try.underlying22 rfl hb) ?_; refine Wq_o rfl (fun _ _ => opv_rem rfl rfl (by omega)) ?_
    refine Wq_getB_z Try.underlying22 Try.sizeOf5 Try.isAgg5 rfl (fun _ => rfl) rfl hb E1 rfl (by first | omega | (simp <;> omega)) ?_; rintro _ n1 hn1 hn1'
    refine Wq_o rfl (fun _ _ => opv_conv_int Try.underlying5 Try.underlying3 rfl (by omega)) ?_; refine Wq_o rfl (fun _ _ => opv_mul rfl rfl (by omega)) ?_; refine Wq_o rfl (fun _ _ => opv_move (v := .pointer _) rfl) ?_
    refine Wq_o rfl (fun _ _ => opv_nilCheck rfl) ?_; refine Wq_o rfl (fun _ _ => opv_fieldAddr Try.underlying73 rfl rfl Try.sizeOf22 rfl) ?_; refine Wq_o (v := vb) rfl (fun w' hw' => opv_load Try.isAgg22 rfl ((hB.ext hw').cell rfl)) ?_
    refine Wq_o rfl (fun _ _ => opv_move (v := .int _ _) rfl) ?_; refine Wq_o rfl (fun _ _ => opv_mul rfl rfl (by omega)) ?_; refine Wq_o rfl (fun _ _ => opv_add rfl rfl (by omega)) ?_
    refine Wq_o rfl (fun _ _ => opv_move (v := .pointer _) rfl) ?_; refine Wq_o rfl (fun _ _ => opv_nilCheck rfl) ?_; refine Wq_o rfl (fun _ _ => opv_fieldAddr Try.underlying73 rfl rfl Try.sizeOf22 rfl) ?_
    refine Wq_o (v := vb) rfl (fun w' hw' => opv_load Try.isAgg22 rfl ((hB.ext hw').cell rfl)) ?_; refine Wq_o rfl (fun _ _ => opv_len Try.underlying22 rfl hb) ?_; refine Wq_o rfl (fun _ _ => opv_rem rfl rfl (by omega)) ?_
    refine Wq_getB_z Try.underlying22 Try.sizeOf5 Try.isAgg5 rfl (fun _ => rfl) rfl hb E1 rfl (by first | omega | (simp <;> omega)) ?_; rintro _ n2 hn2 hn2'
    refine Wq_o rfl (fun _ _ => opv_conv_int Try.underlying5 Try.underlying3 rfl (by omega)) ?_; refine Wq_o rfl (fun _ _ => opv_mul rfl rfl (by omega)) ?_; refine Wq_o rfl (fun _ _ => opv_add rfl rfl (by omega)) ?_
    refine Wq_o rfl (fun _ _ => opv_move (v := .int _ _) rfl) ?_; refine Wq_o rfl (fun _ _ => opv_mul rfl rfl (by omega)) ?_; refine Wq_o rfl (fun _ _ => opv_add rfl rfl (by omega)) ?_
    refine Wq_o rfl (fun _ _ => opv_move (v := .int _ _) rfl) ?_; refine Wq_o rfl (fun _ _ => opv_move (v := .pointer _) rfl) ?_; refine Wq_o rfl (fun _ _ => opv_nilCheck rfl) ?_
    refine Wq_o rfl (fun _ _ => opv_fieldAddr Try.underlying73 rfl rfl Try.sizeOf22 rfl) ?_; refine Wq_o (v := vb) rfl (fun w' hw' => opv_load Try.isAgg22 rfl ((hB.ext hw').cell rfl)) ?_
    refine Wq_o rfl (fun _ _ => opv_len Try.underlying22 rfl hb) ?_; refine Wq_o rfl (fun _ _ => opv_quo rfl rfl (by omega)) ?_; refine Wq_o rfl (fun _ _ => opv_mul rfl rfl (by omega)) ?_
    refine Wq_o rfl (fun _ _ => opv_add rfl rfl (by omega)) ?_; refine Wq_o rfl (fun _ _ => opv_assign (v := .int _ _) rfl) ?_; refine Wq_nil (fun w2 E2 => ?_); have hG := grownBy_ext hG E2; have hs1 := E2.size; refine W_seq ?_
    refine W_region rfl ?_; refine Wo rfl (opv_move (v := .int _ _) rfl) ?_; refine Wo rfl (opv_move (v := .int _ _) rfl) ?_; refine Wo rfl (opv_quo rfl rfl (by omega)) ?_; refine Wo rfl (opv_xor rfl rfl (by omega)) ?_
    refine Wo rfl (opv_assign (v := .int _ _) rfl) ?_; refine Wo_nil ?_; refine W_seq ?_; refine W_region rfl ?_; refine Wo rfl (opv_move (v := .int _ _) rfl) ?_; refine Wo rfl (opv_move (v := .int _ _) rfl) ?_
    refine Wo rfl (opv_rem rfl rfl (by omega)) ?_; refine Wo rfl (opv_assign (v := .int _ _) rfl) ?_; refine Wo_nil ?_; refine W_ret ?_; refine at_ret (v := .int _ _) rfl ?_; rotate_left
  · exact ⟨0, rfl, hG, ⟨by assumption, hge, hB.lt, vb, bs, p + 1, hb, hlen, hB, by omega⟩, fun h => by omega⟩
  · have e := Int.emod_nonneg (n1 : Int) (show n ≠ 0 by omega)
    refine ⟨((n1 : Int) % n).toNat, by simp only [Int.toNat_of_nonneg e], hG, ⟨by assumption, hge, hB.lt, vb, bs, p + 1, hb, hlen, hB, by omega⟩, fun h => ?_⟩
    simp only [Int.toNat_of_nonneg e]
    exact Int.emod_lt_of_pos _ (by omega)
  · refine at_ret (v := .int .i64 _) rfl ?_
    generalize hz : ((((n1 * 131 : Int) + n2 * 1117 + ((p : Int) + 1 - 1) * 29 + ((p : Int) + 1 - 1) / (bs.length : Int) * 53).toNat ^^^ (((n1 * 131 : Int) + n2 * 1117 + ((p : Int) + 1 - 1) * 29 + ((p : Int) + 1 - 1) / (bs.length : Int) * 53) / 64).toNat : Nat) : Int) = z
    have hz0 : 0 ≤ z := by rw [← hz]; omega
    have hB := hB.ext (show Ext w1 w2 by assumption)
    have e := Int.emod_nonneg z (show n ≠ 0 by omega)
    refine ⟨(z % n).toNat, by simp only [Int.toNat_of_nonneg e], hG, ⟨E1.trans (by assumption), hge, hB.lt, vb, bs, p + 1, hb, hlen, hB, by omega⟩, fun h => ?_⟩
    simp only [Int.toNat_of_nonneg e]
    exact Int.emod_lt_of_pos _ (by omega)

theorem odd_ok {w0 : World} (w : World) {br m : Nat} (n : Int) (hr : Rdr w0 w br m) (hm : m ≤ 1000000000) (hn : -1000000 ≤ n ∧ n ≤ 1000000) :
    Does Try.prog 79 [.pointer (some ⟨br, 0, none⟩), .int .i64 n] w (RetD w0 w br (m + 1) Value.bool (fun _ _ => True)) := by
  refine fn_of_W1 Try.func79 rfl Try.results79 Try.ntmps79 rfl ?_
  have hG : w.grownBy w (some br) := grownBy_refl _ _
  focus
    refine W_seq ?_; refine W_region rfl ?_; refine Wo rfl (opv_assign (v := .bool _) rfl) ?_; refine Wo_nil ?_; refine W_seq ?_; refine W_region rfl ?_; refine Wo rfl (opv_move (v := .int _ _) rfl) ?_
    refine Wo rfl (opv_gtr rfl rfl) ?_; refine Wo_split_dec rfl (opv_move (v := .bool _) rfl) (fun h1 => ?_) (fun h1 => ?_); refine Wo rfl (opv_move (v := .pointer _) rfl) ?_; refine Wo rfl (opv_move (v := .int _ _) rfl) ?_
    refine Wo_call rfl (opc2 (a := .pointer _) (b := .int _ _) Try.call52 rfl rfl) (pick_ok _ _ (by assumption) (by assumption)) ?_; rintro _ w1 ⟨y1, rfl, E1, hr1, hy1⟩; (try dsimp only at hy1); have hlhr1 := hr1.lt
    have Ehr1 := hr1.old; have hG := grownBy_trans hG E1; have hs1 := E1.size; refine Wo rfl (opv_move (v := .int _ _) rfl) ?_; refine Wo rfl (opv_sub rfl rfl (by omega)) ?_; refine Wo rfl (opv_eql rfl rfl) ?_
    refine Wo rfl (opv_pick_t (v := .bool _) rfl rfl) ?_; refine Wo rfl (opv_assign (v := .bool _) rfl) ?_; refine Wo_nil ?_; refine W_ret ?_; refine at_ret (v := .bool _) rfl ?_; rotate_left; refine Wo_skip rfl ?_
    refine Wo_skip rfl ?_; refine Wo_skip rfl ?_; refine Wo_skip rfl ?_; refine Wo_skip rfl ?_; refine Wo_skip rfl ?_; refine Wo rfl (opv_pick_f (v := .bool _) rfl rfl) ?_; refine Wo rfl (opv_assign (v := .bool _) rfl) ?_
    refine Wo_nil ?_; refine W_ret ?_; refine at_ret (v := .bool _) rfl ?_; rotate_left
  all_goals first | exact ⟨_, rfl, hG, hr1, trivial⟩ | exact ⟨_, rfl, hG, hr.le (by omega), trivial⟩


theorem flat73 : Flat Try.prog 73 [.slice none 0 0, .int .i64 0] := ⟨_, Try.underlying73, fun _ => by kernel_rfl, fun _ => by kernel_rfl⟩
theorem open_ok (w : World) (v : Value) (xs : List UInt8) (h : Bytes w v xs) (hc : CapOk v) :
    Does Try.prog 50 [v] w (RetX w (fun br : Nat => .pointer (some ⟨br, 0, none⟩)) (fun br w' => Rdr w w' br 0)) := by
  refine fn_of_W1 Try.func50 rfl Try.results50 Try.ntmps50 rfl ?_
  have hl := h.le
  obtain ⟨a, c, rfl, hR⟩ := id h
  obtain ⟨a', l', c', e, hcap⟩ := hc
  cases e
  by_cases h2 : 2000 < xs.length
  · obtain ⟨b, o, u, rfl, _⟩ := hR.at (show 0 < xs.length by omega)
    have hT := h.take (cap' := c) 2000 (by omega)
    focus
      refine W_seq ?_; refine W_region rfl ?_; refine Wo rfl (opv_assign (v := .pointer _) rfl) ?_; refine Wo_nil ?_; refine W_seq ?_; refine W_seq ?_; refine W_region rfl ?_; refine Wo rfl (opv_move (v := .slice _ _ _) rfl) ?_
      refine Wo rfl (opv_len Try.underlying22 rfl h) ?_; refine Wo rfl (opv_gtr rfl rfl) ?_; refine Wo_nil ?_; refine W_cond_dec rfl (fun h1 => ?_) (fun h1 => ?_); refine W_region rfl ?_
      refine Wo rfl (opv_move (v := .slice _ _ _) rfl) ?_; refine Wo rfl (opv_slice_sl_hi Try.underlying22 Try.sizeOf5 rfl rfl (by omega)) ?_; refine Wo rfl (opv_assign (v := .slice _ _ _) rfl) ?_; refine Wo_nil ?_; refine W_seq ?_
      refine W_region rfl ?_; refine Wo rfl (opv_move (v := .slice _ _ _) rfl) ?_; refine Wo rfl (opv_build (ps := [(0, .slice _ _ _)]) (cs := [_, _]) flat73 rfl rfl) ?_; refine Wo_box rfl rfl rfl ?_; rintro b1 w1 hb1 E1 hB1
      have hlb1 := hB1.lt; have hs1 := E1.size; refine Wo rfl (opv_assign (v := .pointer _) rfl) ?_; refine Wo_nil ?_; refine W_ret ?_; refine at_ret (v := .pointer _) rfl ?_; refine ⟨E1, _, rfl, ?_⟩; (try dsimp only); rotate_left
      (exfalso; omega)
    all_goals exact ⟨by assumption, by assumption, by assumption, _, _, 0, hT, by simp; omega, by assumption, by omega⟩
  · focus
      refine W_seq ?_; refine W_region rfl ?_; refine Wo rfl (opv_assign (v := .pointer _) rfl) ?_; refine Wo_nil ?_; refine W_seq ?_; refine W_seq ?_; refine W_region rfl ?_; refine Wo rfl (opv_move (v := .slice _ _ _) rfl) ?_
      refine Wo rfl (opv_len Try.underlying22 rfl h) ?_; refine Wo rfl (opv_gtr rfl rfl) ?_; refine Wo_nil ?_; refine W_cond_dec rfl (fun h1 => ?_) (fun h1 => ?_); (exfalso; omega); refine W_skip ?_; refine W_seq ?_
      refine W_region rfl ?_; refine Wo rfl (opv_move (v := .slice _ _ _) rfl) ?_; refine Wo rfl (opv_build (ps := [(0, .slice _ _ _)]) (cs := [_, _]) flat73 rfl rfl) ?_; refine Wo_box rfl rfl rfl ?_; rintro b1 w1 hb1 E1 hB1
      have hlb1 := hB1.lt; have hs1 := E1.size; refine Wo rfl (opv_assign (v := .pointer _) rfl) ?_; refine Wo_nil ?_; refine W_ret ?_; refine at_ret (v := .pointer _) rfl ?_; refine ⟨E1, _, rfl, ?_⟩; (try dsimp only)
    all_goals exact ⟨by assumption, by assumption, by assumption, _, _, 0, h, by omega, by assumption, by omega⟩
