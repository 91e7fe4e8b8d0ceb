/- Walks: journals read. -/
import Derived.Test.YtgphoihilheoeaaDoorHsWDq
import Derived.Test.YtgphoihilheoeaaDoorHsWJn
namespace Go.Proofs.YtgphoihilheoeaaDoor
open Go.Hs
set_option maxRecDepth 10000
set_option maxHeartbeats 4000000
set_option linter.unusedVariables false
set_option linter.unusedSimpArgs false

theorem rj_stop {s : List UInt8} {f : Nat} {L : List Deed} (h : rjV s = (L ++ (rjV (s.drop f)).1, f + (rjV (s.drop f)).2)) (h2 : (rjV (s.drop f)) = ([], 0)) : L = (rjV s).1 ∧ ((f : Nat) : Int) = ((rjV s).2 : Nat) := by
  rw [h2] at h
  rw [h]; simp
theorem rj_next {s x r : List UInt8} {f : Nat} {L : List Deed} {a : Deed} (h : rjV s = (L ++ (rjV (s.drop f)).1, f + (rjV (s.drop f)).2)) (h2 : s.drop f = x ++ 10 :: r) (hx : (10 : UInt8) ∉ x) (hr : rdD x = some a) :
    rjV s = ((L ++ [a]) ++ (rjV (s.drop (f + x.length + 1))).1, (f + x.length + 1) + (rjV (s.drop (f + x.length + 1))).2) := by
  have e : s.drop (f + x.length + 1) = r := by
    rw [show f + x.length + 1 = f + (x.length + 1) by omega, ← List.drop_drop, h2, show x ++ 10 :: r = (x ++ [10]) ++ r by simp, List.drop_append_of_le_length (by simp)]
    simp
  rw [h2, rjV_line hx, hr] at h
  simp only at h
  rw [e, h, List.append_assoc]
  refine Prod.ext rfl ?_
  simp only; omega
theorem rj_none {x r : List UInt8} (hx : (10 : UInt8) ∉ x) (hr : rdD x = none) : rjV (x ++ 10 :: r) = ([], 0) := by rw [rjV_line hx, hr]
theorem rdD_text {s : List UInt8} {a : Deed} (h : rdD s = some a) {n : Nat} (hs : s.length ≤ n) : a.text.length ≤ n := by
  have h1 := (rdD_some h).1
  have ht := rdD_told h
  cases ht with
  | single => simp
  | back => simp
  | into d hd => simp
  | add p hp => rw [dtV_add hp] at h1; rw [← h1] at hs; simp at hs ⊢; omega
  | drop p hp => rw [dtV_drop hp] at h1; rw [← h1] at hs; simp at hs ⊢; omega
theorem spec_ReadJournal_ok (w : World) (s : List UInt8) (hs : s.length ≤ 1048576) :
    Does Tryd.prog 23 [str s] w (RetODZ w 26 (rjV s).1 (rjV s).2) := by
  have kd : ∀ (w : World) (x : List UInt8), x.length ≤ 1048576 → Does Tryd.prog 15 [str x] w (Ret w (.tuple #[dv ((rdD x).getD ⟨0, [], 0⟩), .bool (rdD x).isSome])) := fun w x hx => spec_ReadDeed_ok w x hx
  refine fn_of_W2 Tryd.func23 rfl Tryd.results23 Tryd.ntmps23 rfl ?_
  focus
    refine W_seq ?_; refine W_region rfl ?_; refine Wo rfl (opv_assign (v := .slice _ _ _) rfl) ?_; refine Wo rfl (opv_assign (v := .int _ _) rfl) ?_; refine Wo_nil ?_; refine W_seq ?_; refine W_region rfl ?_
    refine Wo_buildD0  rfl elD36   ?_; rintro b1 w1 hb1 E1 hO1; have hs1 := E1.size; refine Wo rfl (opv_assign (v := .slice _ _ _) rfl) ?_; refine Wo_nil ?_; refine W_seq ?_; refine W_region rfl ?_
    refine Wo rfl (opv_assign (v := .int _ _) rfl) ?_; refine Wo_nil ?_; refine W_seq ?_; refine W_seq ?_; refine W_region rfl ?_; refine Wo rfl (opv_assign (v := .int _ _) rfl) ?_; refine Wo_nil ?_; refine W_block ?_
  refine W_loop [2, 3, 4, 5, 6, 7, 8, 10, 11, 12, 13, 14, 15, 16, 17, 18, 19, 20, 21, 22, 23, 24, 25, 26, 27, 28, 29, 30, 31, 32, 33, 34, 35, 36, 37] (fun ((k, f, L, v) : Nat × Nat × List Deed × Value) => [(6, .int .i64 (k : Nat)), (5, .int .i64 (f : Nat)), (4, v)]) (fun (k, f, L, v) w' => Ext w w' ∧ k ≤ s.length ∧ f ≤ k ∧ L.length ≤ f ∧ OD 26 w.heap.size w' v L ∧ (10 : UInt8) ∉ (s.drop f).take (k - f) ∧ rjV s = (L ++ (rjV (s.drop f)).1, f + (rjV (s.drop f)).2)) (fun x => s.length - x.1) (0, 0, [], _) (by repeat (first | exact trivial | refine And.intro rfl ?_)) ?_ ?_
  · exact ⟨by assumption, Nat.zero_le _, Nat.le_refl _, by simp, hO1, by simp, by simp⟩
  clear hO1
  rintro ⟨k, f, L, v⟩ ρj w2 ⟨E2, hk, hf, hLf, hO1, h10, hrj⟩
  by_cases hkl : k < s.length
  · have hg : s.getD k 0 = s[k] := getD_lt hkl
    by_cases hc : s[k] = 10
    · have hd : s.drop f = (s.drop f).take (k - f) ++ 10 :: s.drop (k + 1) := by
        have e1 := (List.take_append_drop (k - f) (s.drop f)).symm
        rw [List.drop_drop, show f + (k - f) = k by omega, List.drop_eq_getElem_cons hkl, hc] at e1
        exact e1
      have hxl : ((s.drop f).take (k - f)).length = k - f := by simp; omega
      obtain ⟨x, hx⟩ : ∃ x, x = (s.drop f).take (k - f) := ⟨_, rfl⟩
      rw [← hx] at hd hxl h10
      have kx : ∀ (w : World), Does Tryd.prog 15 [str ((s.drop f).take (k - f))] w (Ret w (.tuple #[dv ((rdD x).getD ⟨0, [], 0⟩), .bool (rdD x).isSome])) := fun w => hx ▸ kd w x (by omega)
      have hcz : ((s.getD k 0).toNat : Int) = 10 := by rw [hg, hc]; rfl
      clear kd
      cases hr : rdD x with
      | none =>
        rw [hr] at kx
        focus
          have szE2 := E2.size; have szE1 := E1.size; refine W_seq ?_; refine W_seq ?_; refine W_region rfl ?_; refine Wo rfl (opv_move (v := .int _ _) rfl) ?_; refine Wo rfl (opv_move (v := .string _) rfl) ?_
          refine Wo rfl (opv_len_str Tryd.underlying9 rfl) ?_; refine Wo rfl (opv_lss rfl rfl) ?_; refine Wo_nil ?_; refine W_cond_dec rfl (fun h1 => ?_) (fun h1 => ?_); refine W_skip ?_; refine W_seq ?_; refine W_block ?_; refine W_seq ?_
          refine W_region rfl ?_; refine Wo rfl (opv_move (v := .string _) rfl) ?_; refine Wo rfl (opv_move (v := .int _ _) rfl) ?_; refine Wo rfl (opv_index_str Tryd.underlying9 rfl rfl (by omega)) ?_; refine Wo rfl (opv_eql rfl rfl) ?_
          refine Wo_nil ?_; refine W_cond_dec rfl (fun h2 => ?_) (fun h2 => ?_); refine W_seq ?_; refine W_region rfl ?_; refine Wo rfl (opv_move (v := .string _) rfl) ?_; refine Wo rfl (opv_move (v := .int _ _) rfl) ?_
          refine Wo rfl (opv_move (v := .int _ _) rfl) ?_; refine Wo rfl (opv_slice_str Tryd.underlying9 rfl rfl rfl (by omega)) ?_; refine Wo_call rfl (opc1 (a := .string _) Tryd.call15 rfl) (kx _) ?_; rintro _ w3 ⟨rfl, E3⟩
          have hs2 := E3.size; refine Wo rfl (opv_move (v := .tuple _) rfl) ?_; refine Wo rfl (opv_extract (v := .agg _) rfl rfl) ?_; refine Wo rfl (opv_extract (v := .bool _) rfl rfl) ?_; refine Wo_allocN rfl flat26 ?_
          rintro b2 w4 hb2 E4 hB1; have hlb2 := hB1.lt; have hs3 := E4.size
          refine Wo_st3 rfl Tryd.sizeOf26 rfl rfl (by first | rfl | assumption) (by first | rfl | assumption) (by first | rfl | assumption) hB1 (by omega) ((E2.trans E3).trans E4) ?_; rintro w5 E5 hB1 K1 hz1
          have E6 := (E3.trans E4).wroteAt ((E2.trans E3).trans E4) E5 K1 hz1 (by omega); have szE6 := E6.size; have E7 := E4.wroteAt ((E2.trans E3).trans E4) E5 K1 hz1 (by omega); have szE7 := E7.size
          refine Wo rfl (opv_assign (v := .bool _) rfl) ?_; refine Wo_nil ?_; refine W_seq ?_; refine W_seq ?_; refine W_region rfl ?_; refine Wo rfl (opv_move (v := .bool _) rfl) ?_; refine Wo rfl (opv_not rfl) ?_; refine Wo_nil ?_
          refine W_cond rfl (fun h3 => ?_) (fun h3 => ?_); refine W_seq ?_; refine W_region rfl ?_; refine Wo rfl (opv_move (v := v) rfl) ?_; refine Wo rfl (opv_move (v := .int _ _) rfl) ?_; refine Wo rfl (opv_assign (v := v) rfl) ?_
          refine Wo rfl (opv_assign (v := .int _ _) rfl) ?_; refine Wo_nil ?_; refine W_ret ?_; refine at_ret (v := .tuple #[v, .int _ _]) rfl ?_; rotate_left; contradiction; contradiction; (exfalso; omega)
        obtain ⟨e1, e2⟩ := rj_stop hrj (by rw [hd]; exact rj_none h10 hr)
        refine ⟨v, by rw [e2], E2.trans (by first | assumption | exact Ext.trans (by assumption) (by assumption)), ?_⟩
        rw [← e1]; exact hO1.ext (by first | assumption | exact Ext.trans (by assumption) (by assumption))
      | some a =>
        rw [hr] at kx
        have hat : a.text.length ≤ 9223372036854775807 := rdD_text hr (by omega)
        focus
          have szE2 := E2.size; have szE1 := E1.size; refine W_seq ?_; refine W_seq ?_; refine W_region rfl ?_; refine Wo rfl (opv_move (v := .int _ _) rfl) ?_; refine Wo rfl (opv_move (v := .string _) rfl) ?_
          refine Wo rfl (opv_len_str Tryd.underlying9 rfl) ?_; refine Wo rfl (opv_lss rfl rfl) ?_; refine Wo_nil ?_; refine W_cond_dec rfl (fun h1 => ?_) (fun h1 => ?_); refine W_skip ?_; refine W_seq ?_; refine W_block ?_; refine W_seq ?_
          refine W_region rfl ?_; refine Wo rfl (opv_move (v := .string _) rfl) ?_; refine Wo rfl (opv_move (v := .int _ _) rfl) ?_; refine Wo rfl (opv_index_str Tryd.underlying9 rfl rfl (by omega)) ?_; refine Wo rfl (opv_eql rfl rfl) ?_
          refine Wo_nil ?_; refine W_cond_dec rfl (fun h2 => ?_) (fun h2 => ?_); refine W_seq ?_; refine W_region rfl ?_; refine Wo rfl (opv_move (v := .string _) rfl) ?_; refine Wo rfl (opv_move (v := .int _ _) rfl) ?_
          refine Wo rfl (opv_move (v := .int _ _) rfl) ?_; refine Wo rfl (opv_slice_str Tryd.underlying9 rfl rfl rfl (by omega)) ?_; refine Wo_call rfl (opc1 (a := .string _) Tryd.call15 rfl) (kx _) ?_; rintro _ w3 ⟨rfl, E3⟩
          have hs2 := E3.size; refine Wo rfl (opv_move (v := .tuple _) rfl) ?_; refine Wo rfl (opv_extract (v := .agg _) rfl rfl) ?_; refine Wo rfl (opv_extract (v := .bool _) rfl rfl) ?_; refine Wo_allocN rfl flat26 ?_
          rintro b2 w4 hb2 E4 hB1; have hlb2 := hB1.lt; have hs3 := E4.size
          refine Wo_st3 rfl Tryd.sizeOf26 rfl rfl (by first | rfl | assumption) (by first | rfl | assumption) (by first | rfl | assumption) hB1 (by omega) ((E2.trans E3).trans E4) ?_; rintro w5 E5 hB1 K1 hz1
          have E6 := (E3.trans E4).wroteAt ((E2.trans E3).trans E4) E5 K1 hz1 (by omega); have szE6 := E6.size; have E7 := E4.wroteAt ((E2.trans E3).trans E4) E5 K1 hz1 (by omega); have szE7 := E7.size
          refine Wo rfl (opv_assign (v := .bool _) rfl) ?_; refine Wo_nil ?_; refine W_seq ?_; refine W_seq ?_; refine W_region rfl ?_; refine Wo rfl (opv_move (v := .bool _) rfl) ?_; refine Wo rfl (opv_not rfl) ?_; refine Wo_nil ?_
          refine W_cond rfl (fun h3 => ?_) (fun h3 => ?_); contradiction; refine W_skip ?_; refine W_seq ?_; refine W_region rfl ?_; refine Wo rfl (opv_move (v := v) rfl) ?_
          refine Wo (v := .agg _) rfl (opv_load3 Tryd.isAgg26 Tryd.sizeOf26 rfl hB1) ?_; refine Wo_buildD1 (a1 := ⟨_, _, _⟩) rfl elD36 rfl (by first | assumption | omega | (simp <;> omega)) ?_; rintro b3 w6 hb3 E8 hO2; have hs4 := E8.size
          refine Wo_appD rfl elD36 rfl rfl (hO1.ext (E6.trans E8)) hO2 (by first | omega | (simp <;> omega)) (by omega) (E5.trans E8) (by omega) ?_; rintro v1 w7 hO3 E9 G1; refine Wo rfl (opv_assign (v := v1) rfl) ?_; refine Wo_nil ?_
          refine W_region rfl ?_; refine Wo rfl (opv_move (v := .int _ _) rfl) ?_; refine Wo rfl (opv_add rfl rfl (by omega)) ?_; refine Wo rfl (opv_assign (v := .int _ _) rfl) ?_; refine Wo_nil ?_; refine W_region rfl ?_
          refine Wo rfl (opv_move (v := .int _ _) rfl) ?_; refine Wo rfl (opv_add rfl rfl (by omega)) ?_; refine Wo rfl (opv_assign (v := .int _ _) rfl) ?_; refine Wo_nil ?_; rotate_left; contradiction; (exfalso; omega)
        refine ⟨((k + 1, k + 1, L ++ [a], v1)), by repeat (first | exact trivial | refine And.intro rfl ?_), by repeat (first | with_reducible exact Same.refl | refine Same.upd rfl ?_ | refine Same.upds rfl ?_ | refine Same.mix rfl ?_), ?_, ?_⟩
        · have e := rj_next hrj hd h10 hr
          rw [show f + x.length + 1 = k + 1 by omega] at e
          refine ⟨by assumption, by omega, by omega, by simp; omega, by assumption, by simp, e⟩
        · simp only; omega
    · have hcz : ¬ ((s.getD k 0).toNat : Int) = 10 := by
        rw [hg]; intro h; exact hc (UInt8.toNat.inj (show s[k].toNat = 10 by omega))
      focus
        have szE2 := E2.size; have szE1 := E1.size; refine W_seq ?_; refine W_seq ?_; refine W_region rfl ?_; refine Wo rfl (opv_move (v := .int _ _) rfl) ?_; refine Wo rfl (opv_move (v := .string _) rfl) ?_
        refine Wo rfl (opv_len_str Tryd.underlying9 rfl) ?_; refine Wo rfl (opv_lss rfl rfl) ?_; refine Wo_nil ?_; refine W_cond_dec rfl (fun h1 => ?_) (fun h1 => ?_); refine W_skip ?_; refine W_seq ?_; refine W_block ?_; refine W_seq ?_
        refine W_region rfl ?_; refine Wo rfl (opv_move (v := .string _) rfl) ?_; refine Wo rfl (opv_move (v := .int _ _) rfl) ?_; refine Wo rfl (opv_index_str Tryd.underlying9 rfl rfl (by omega)) ?_; refine Wo rfl (opv_eql rfl rfl) ?_
        refine Wo_nil ?_; refine W_cond_dec rfl (fun h2 => ?_) (fun h2 => ?_); contradiction; refine W_skip ?_; refine W_region rfl ?_; refine Wo rfl (opv_move (v := .int _ _) rfl) ?_; refine Wo rfl (opv_add rfl rfl (by omega)) ?_
        refine Wo rfl (opv_assign (v := .int _ _) rfl) ?_; refine Wo_nil ?_; rotate_left; (exfalso; omega)
      refine ⟨((k + 1, f, L, v)), by repeat (first | exact trivial | refine And.intro rfl ?_), by repeat (first | with_reducible exact Same.refl | refine Same.upd rfl ?_ | refine Same.upds rfl ?_ | refine Same.mix rfl ?_), ?_, ?_⟩
      · refine ⟨by assumption, by omega, by omega, by omega, by assumption, ?_, hrj⟩
        have e : (s.drop f).take (k + 1 - f) = (s.drop f).take (k - f) ++ [s[k]] := by
          rw [show k + 1 - f = (k - f) + 1 by omega, List.take_succ_eq_append_getElem (by simp; omega), List.getElem_drop]
          simp only [show f + (k - f) = k by omega]
        rw [e]
        intro hm
        rcases List.mem_append.1 hm with hm | hm
        · exact h10 hm
        · exact hc (List.mem_singleton.1 hm).symm
      · simp only; omega
  · focus
      have szE2 := E2.size; have szE1 := E1.size; refine W_seq ?_; refine W_seq ?_; refine W_region rfl ?_; refine Wo rfl (opv_move (v := .int _ _) rfl) ?_; refine Wo rfl (opv_move (v := .string _) rfl) ?_
      refine Wo rfl (opv_len_str Tryd.underlying9 rfl) ?_; refine Wo rfl (opv_lss rfl rfl) ?_; refine Wo_nil ?_; refine W_cond_dec rfl (fun h1 => ?_) (fun h1 => ?_); (exfalso; omega); refine W_exit ?_; refine exitX_same ?_
      refine W_seq ?_; refine W_region rfl ?_; refine Wo rfl (opv_move (v := v) rfl) ?_; refine Wo rfl (opv_move (v := .int _ _) rfl) ?_; refine Wo rfl (opv_assign (v := v) rfl) ?_; refine Wo rfl (opv_assign (v := .int _ _) rfl) ?_
      refine Wo_nil ?_; refine W_ret ?_; refine at_ret (v := .tuple #[v, .int _ _]) rfl ?_
    obtain rfl : k = s.length := by omega
    have h9 : (10 : UInt8) ∉ s.drop f := by rwa [List.take_of_length_le (by simp)] at h10
    obtain ⟨e1, e2⟩ := rj_stop hrj (rjV_one h9)
    refine ⟨v, by rw [e2], by assumption, ?_⟩
    rw [← e1]; exact hO1

theorem impl_ReadJournal_ok (w : World) (s : List UInt8) (hM : EMx gMx w (.bool true) ()) (hs : s.length ≤ 1048576) :
    Does Tryd.prog 24 [str s] w (RetODZ w 26 (rjV s).1 (rjV s).2) := by
  have kd : ∀ (w : World) (x : List UInt8), EMx gMx w (.bool true) () → x.length ≤ 1048576 → Does Tryd.prog 47 [str x] w (Ret w (.tuple #[dv ((rdD x).getD ⟨0, [], 0⟩), .bool (rdD x).isSome])) := fun w x hM hx => impl_readDeed_ok w x hM hx
  refine fn_of_W2 Tryd.func24 rfl Tryd.results24 Tryd.ntmps24 rfl ?_
  focus
    refine W_seq ?_; refine W_region rfl ?_; refine Wo rfl (opv_assign (v := .slice _ _ _) rfl) ?_; refine Wo rfl (opv_assign (v := .int _ _) rfl) ?_; refine Wo_nil ?_; refine W_seq ?_; refine W_region rfl ?_
    refine Wo_buildD0  rfl elD36   ?_; rintro b1 w1 hb1 E1 hO1; have hs1 := E1.size; refine Wo rfl (opv_assign (v := .slice _ _ _) rfl) ?_; refine Wo_nil ?_; refine W_seq ?_; refine W_region rfl ?_
    refine Wo rfl (opv_assign (v := .int _ _) rfl) ?_; refine Wo_nil ?_; refine W_block ?_
  refine W_loop [2, 3, 4, 5, 6, 7, 8, 9, 10, 12, 13, 14, 15, 16, 17, 18, 19, 20, 21, 22, 23, 24, 25, 26, 27, 28, 29, 30, 31, 32, 33, 34, 35, 36, 37, 38, 39, 40, 41] (fun ((f, L, v) : Nat × List Deed × Value) => [(5, .int .i64 (f : Nat)), (4, v)]) (fun (f, L, v) w' => Ext w w' ∧ f ≤ s.length ∧ L.length ≤ f ∧ OD 26 w.heap.size w' v L ∧ rjV s = (L ++ (rjV (s.drop f)).1, f + (rjV (s.drop f)).2)) (fun x => s.length - x.1) (0, [], _) (by repeat (first | exact trivial | refine And.intro rfl ?_)) ?_ ?_
  · exact ⟨by assumption, Nat.zero_le _, by simp, hO1, by simp⟩
  clear hO1
  rintro ⟨f, L, v⟩ ρj w2 ⟨E2, hf, hLf, hO1, hrj⟩
  have hdl : (s.drop f).length ≤ 1048576 := by simp; omega
  rcases line_ind (s.drop f) with h10 | ⟨x, r, hd, h10⟩
  · have kc : ∀ (w : World), EMx gMx w (.bool true) () → Does Tryd.prog 48 [str (s.drop f), str [10]] w (Ret w (.tuple #[str (s.drop f), str [], .bool false])) := fun w hM => by
      have := Cut_ok w (s.drop f) 10 hM hdl
      rw [cutF_no h10] at this; exact this
    have kx : ∀ (w : World), EMx gMx w (.bool true) () → Does Tryd.prog 47 [str (s.drop f)] w (Ret w (.tuple #[dv ((rdD (s.drop f)).getD ⟨0, [], 0⟩), .bool (rdD (s.drop f)).isSome])) := fun w hM => kd w _ hM hdl
    clear kd
    focus
      have szE2 := E2.size; have szE1 := E1.size; refine W_block ?_; refine W_seq ?_; refine W_region rfl ?_; refine Wo rfl (opv_move (v := .string _) rfl) ?_; refine Wo rfl (opv_move (v := .int _ _) rfl) ?_
      refine Wo rfl (opv_slice_str_lo Tryd.underlying9 rfl rfl (by omega)) ?_; refine Wo_call rfl (opc2 (a := .string _) (b := .string _) Tryd.call48 rfl rfl) (kc _ ((Mono.mono E2 hM))) ?_; rintro _ w3 ⟨rfl, E3⟩; have hs2 := E3.size
      refine Wo rfl (opv_move (v := .tuple _) rfl) ?_; refine Wo rfl (opv_extract (v := .string _) rfl rfl) ?_; refine Wo rfl (opv_extract (v := .string _) rfl rfl) ?_; refine Wo rfl (opv_extract (v := .bool _) rfl rfl) ?_
      refine Wo rfl (opv_assign (v := .string _) rfl) ?_; refine Wo rfl (opv_assign (v := .string _) rfl) ?_; refine Wo rfl (opv_assign (v := .bool _) rfl) ?_; refine Wo_nil ?_; refine W_seq ?_; refine W_region rfl ?_
      refine Wo rfl (opv_move (v := .string _) rfl) ?_; refine Wo_call rfl (opc1 (a := .string _) Tryd.call47 rfl) (kx _ ((Mono.mono (E2.trans E3) hM))) ?_; rintro _ w4 ⟨rfl, E4⟩; have hs3 := E4.size
      refine Wo rfl (opv_move (v := .tuple _) rfl) ?_; refine Wo rfl (opv_extract (v := .agg _) rfl rfl) ?_; refine Wo rfl (opv_extract (v := .bool _) rfl rfl) ?_; refine Wo_allocN rfl flat26 ?_; rintro b2 w5 hb2 E5 hB1
      have hlb2 := hB1.lt; have hs4 := E5.size; refine Wo_st3 rfl Tryd.sizeOf26 rfl rfl (by first | rfl | assumption) (by first | rfl | assumption) (by first | rfl | assumption) hB1 (by omega) (((E2.trans E3).trans E4).trans E5) ?_
      rintro w6 E6 hB1 K1 hz1; have E7 := ((E3.trans E4).trans E5).wroteAt (((E2.trans E3).trans E4).trans E5) E6 K1 hz1 (by omega); have szE7 := E7.size
      have E8 := (E4.trans E5).wroteAt (((E2.trans E3).trans E4).trans E5) E6 K1 hz1 (by omega); have szE8 := E8.size; have E9 := E5.wroteAt (((E2.trans E3).trans E4).trans E5) E6 K1 hz1 (by omega); have szE9 := E9.size
      refine Wo rfl (opv_assign (v := .bool _) rfl) ?_; refine Wo_nil ?_; refine W_seq ?_; refine W_seq ?_; refine W_region rfl ?_; refine Wo rfl (opv_move (v := .bool _) rfl) ?_; refine Wo rfl (opv_not rfl) ?_
      refine Wo_split rfl (opv_move (v := .bool _) rfl) (fun h1 => ?_) (fun h1 => ?_); refine Wo_skip rfl ?_; refine Wo_skip rfl ?_; refine Wo rfl (opv_pick_t (v := .bool _) rfl rfl) ?_; refine Wo_nil ?_; refine W_cond_true rfl ?_
      refine W_seq ?_; refine W_region rfl ?_; refine Wo rfl (opv_move (v := v) rfl) ?_; refine Wo rfl (opv_move (v := .int _ _) rfl) ?_; refine Wo rfl (opv_assign (v := v) rfl) ?_; refine Wo rfl (opv_assign (v := .int _ _) rfl) ?_
      refine Wo_nil ?_; refine W_ret ?_; refine at_ret (v := .tuple #[v, .int _ _]) rfl ?_; rotate_left; contradiction
    obtain ⟨e1, e2⟩ := rj_stop hrj (rjV_one h10)
    refine ⟨v, by rw [e2], E2.trans (by first | assumption | exact Ext.trans (by assumption) (by assumption) | exact Ext.trans (by assumption) (Ext.trans (by assumption) (by assumption))), ?_⟩
    rw [← e1]; exact hO1.ext (by first | assumption | exact Ext.trans (by assumption) (by assumption) | exact Ext.trans (by assumption) (Ext.trans (by assumption) (by assumption)))
  · have hxl : f + x.length + 1 ≤ s.length := by
      have := congrArg List.length hd
      simp at this; omega
    have kc : ∀ (w : World), EMx gMx w (.bool true) () → Does Tryd.prog 48 [str (s.drop f), str [10]] w (Ret w (.tuple #[str x, str r, .bool true])) := fun w hM => by
      have := Cut_ok w (s.drop f) 10 hM hdl
      rw [hd, cutF_at h10] at this
      rw [hd]; exact this
    have kx : ∀ (w : World), EMx gMx w (.bool true) () → Does Tryd.prog 47 [str x] w (Ret w (.tuple #[dv ((rdD x).getD ⟨0, [], 0⟩), .bool (rdD x).isSome])) := fun w hM => kd w _ hM (by omega)
    clear kd
    cases hr : rdD x with
    | none =>
      rw [hr] at kx
      focus
        have szE2 := E2.size; have szE1 := E1.size; refine W_block ?_; refine W_seq ?_; refine W_region rfl ?_; refine Wo rfl (opv_move (v := .string _) rfl) ?_; refine Wo rfl (opv_move (v := .int _ _) rfl) ?_
        refine Wo rfl (opv_slice_str_lo Tryd.underlying9 rfl rfl (by omega)) ?_; refine Wo_call rfl (opc2 (a := .string _) (b := .string _) Tryd.call48 rfl rfl) (kc _ ((Mono.mono E2 hM))) ?_; rintro _ w3 ⟨rfl, E3⟩; have hs2 := E3.size
        refine Wo rfl (opv_move (v := .tuple _) rfl) ?_; refine Wo rfl (opv_extract (v := .string _) rfl rfl) ?_; refine Wo rfl (opv_extract (v := .string _) rfl rfl) ?_; refine Wo rfl (opv_extract (v := .bool _) rfl rfl) ?_
        refine Wo rfl (opv_assign (v := .string _) rfl) ?_; refine Wo rfl (opv_assign (v := .string _) rfl) ?_; refine Wo rfl (opv_assign (v := .bool _) rfl) ?_; refine Wo_nil ?_; refine W_seq ?_; refine W_region rfl ?_
        refine Wo rfl (opv_move (v := .string _) rfl) ?_; refine Wo_call rfl (opc1 (a := .string _) Tryd.call47 rfl) (kx _ ((Mono.mono (E2.trans E3) hM))) ?_; rintro _ w4 ⟨rfl, E4⟩; have hs3 := E4.size
        refine Wo rfl (opv_move (v := .tuple _) rfl) ?_; refine Wo rfl (opv_extract (v := .agg _) rfl rfl) ?_; refine Wo rfl (opv_extract (v := .bool _) rfl rfl) ?_; refine Wo_allocN rfl flat26 ?_; rintro b2 w5 hb2 E5 hB1
        have hlb2 := hB1.lt; have hs4 := E5.size; refine Wo_st3 rfl Tryd.sizeOf26 rfl rfl (by first | rfl | assumption) (by first | rfl | assumption) (by first | rfl | assumption) hB1 (by omega) (((E2.trans E3).trans E4).trans E5) ?_
        rintro w6 E6 hB1 K1 hz1; have E7 := ((E3.trans E4).trans E5).wroteAt (((E2.trans E3).trans E4).trans E5) E6 K1 hz1 (by omega); have szE7 := E7.size
        have E8 := (E4.trans E5).wroteAt (((E2.trans E3).trans E4).trans E5) E6 K1 hz1 (by omega); have szE8 := E8.size; have E9 := E5.wroteAt (((E2.trans E3).trans E4).trans E5) E6 K1 hz1 (by omega); have szE9 := E9.size
        refine Wo rfl (opv_assign (v := .bool _) rfl) ?_; refine Wo_nil ?_; refine W_seq ?_; refine W_seq ?_; refine W_region rfl ?_; refine Wo rfl (opv_move (v := .bool _) rfl) ?_; refine Wo rfl (opv_not rfl) ?_
        refine Wo_split rfl (opv_move (v := .bool _) rfl) (fun h1 => ?_) (fun h1 => ?_); contradiction; refine Wo rfl (opv_move (v := .bool _) rfl) ?_; refine Wo rfl (opv_not rfl) ?_; refine Wo rfl (opv_pick_f (v := .bool _) rfl rfl) ?_
        refine Wo_nil ?_; refine W_cond rfl (fun h2 => ?_) (fun h2 => ?_); refine W_seq ?_; refine W_region rfl ?_; refine Wo rfl (opv_move (v := v) rfl) ?_; refine Wo rfl (opv_move (v := .int _ _) rfl) ?_
        refine Wo rfl (opv_assign (v := v) rfl) ?_; refine Wo rfl (opv_assign (v := .int _ _) rfl) ?_; refine Wo_nil ?_; refine W_ret ?_; refine at_ret (v := .tuple #[v, .int _ _]) rfl ?_; rotate_left; contradiction
      obtain ⟨e1, e2⟩ := rj_stop hrj (by rw [hd]; exact rj_none h10 hr)
      refine ⟨v, by rw [e2], E2.trans (by first | assumption | exact Ext.trans (by assumption) (by assumption) | exact Ext.trans (by assumption) (Ext.trans (by assumption) (by assumption))), ?_⟩
      rw [← e1]; exact hO1.ext (by first | assumption | exact Ext.trans (by assumption) (by assumption) | exact Ext.trans (by assumption) (Ext.trans (by assumption) (by assumption)))
    | some a =>
      rw [hr] at kx
      have hat : a.text.length ≤ 9223372036854775807 := rdD_text hr (by omega)
      focus
        have szE2 := E2.size; have szE1 := E1.size; refine W_block ?_; refine W_seq ?_; refine W_region rfl ?_; refine Wo rfl (opv_move (v := .string _) rfl) ?_; refine Wo rfl (opv_move (v := .int _ _) rfl) ?_
        refine Wo rfl (opv_slice_str_lo Tryd.underlying9 rfl rfl (by omega)) ?_; refine Wo_call rfl (opc2 (a := .string _) (b := .string _) Tryd.call48 rfl rfl) (kc _ ((Mono.mono E2 hM))) ?_; rintro _ w3 ⟨rfl, E3⟩; have hs2 := E3.size
        refine Wo rfl (opv_move (v := .tuple _) rfl) ?_; refine Wo rfl (opv_extract (v := .string _) rfl rfl) ?_; refine Wo rfl (opv_extract (v := .string _) rfl rfl) ?_; refine Wo rfl (opv_extract (v := .bool _) rfl rfl) ?_
        refine Wo rfl (opv_assign (v := .string _) rfl) ?_; refine Wo rfl (opv_assign (v := .string _) rfl) ?_; refine Wo rfl (opv_assign (v := .bool _) rfl) ?_; refine Wo_nil ?_; refine W_seq ?_; refine W_region rfl ?_
        refine Wo rfl (opv_move (v := .string _) rfl) ?_; refine Wo_call rfl (opc1 (a := .string _) Tryd.call47 rfl) (kx _ ((Mono.mono (E2.trans E3) hM))) ?_; rintro _ w4 ⟨rfl, E4⟩; have hs3 := E4.size
        refine Wo rfl (opv_move (v := .tuple _) rfl) ?_; refine Wo rfl (opv_extract (v := .agg _) rfl rfl) ?_; refine Wo rfl (opv_extract (v := .bool _) rfl rfl) ?_; refine Wo_allocN rfl flat26 ?_; rintro b2 w5 hb2 E5 hB1
        have hlb2 := hB1.lt; have hs4 := E5.size; refine Wo_st3 rfl Tryd.sizeOf26 rfl rfl (by first | rfl | assumption) (by first | rfl | assumption) (by first | rfl | assumption) hB1 (by omega) (((E2.trans E3).trans E4).trans E5) ?_
        rintro w6 E6 hB1 K1 hz1; have E7 := ((E3.trans E4).trans E5).wroteAt (((E2.trans E3).trans E4).trans E5) E6 K1 hz1 (by omega); have szE7 := E7.size
        have E8 := (E4.trans E5).wroteAt (((E2.trans E3).trans E4).trans E5) E6 K1 hz1 (by omega); have szE8 := E8.size; have E9 := E5.wroteAt (((E2.trans E3).trans E4).trans E5) E6 K1 hz1 (by omega); have szE9 := E9.size
        refine Wo rfl (opv_assign (v := .bool _) rfl) ?_; refine Wo_nil ?_; refine W_seq ?_; refine W_seq ?_; refine W_region rfl ?_; refine Wo rfl (opv_move (v := .bool _) rfl) ?_; refine Wo rfl (opv_not rfl) ?_
        refine Wo_split rfl (opv_move (v := .bool _) rfl) (fun h1 => ?_) (fun h1 => ?_); contradiction; refine Wo rfl (opv_move (v := .bool _) rfl) ?_; refine Wo rfl (opv_not rfl) ?_; refine Wo rfl (opv_pick_f (v := .bool _) rfl rfl) ?_
        refine Wo_nil ?_; refine W_cond rfl (fun h2 => ?_) (fun h2 => ?_); contradiction; refine W_skip ?_; refine W_seq ?_; refine W_region rfl ?_; refine Wo rfl (opv_move (v := v) rfl) ?_
        refine Wo (v := .agg _) rfl (opv_load3 Tryd.isAgg26 Tryd.sizeOf26 rfl hB1) ?_; refine Wo_buildD1 (a1 := ⟨_, _, _⟩) rfl elD36 rfl (by first | assumption | omega | (simp <;> omega)) ?_; rintro b3 w7 hb3 E10 hO2; have hs5 := E10.size
        refine Wo_appD rfl elD36 rfl rfl (hO1.ext (E7.trans E10)) hO2 (by first | omega | (simp <;> omega)) (by omega) (E6.trans E10) (by omega) ?_; rintro v1 w8 hO3 E11 G1; refine Wo rfl (opv_assign (v := v1) rfl) ?_; refine Wo_nil ?_
        refine W_region rfl ?_; refine Wo rfl (opv_move (v := .int _ _) rfl) ?_; refine Wo rfl (opv_move (v := .string _) rfl) ?_; refine Wo rfl (opv_len_str Tryd.underlying9 rfl) ?_; refine Wo rfl (opv_add rfl rfl (by omega)) ?_
        refine Wo rfl (opv_add rfl rfl (by omega)) ?_; refine Wo rfl (opv_assign (v := .int _ _) rfl) ?_; refine Wo_nil ?_
      refine ⟨((f + x.length + 1, L ++ [a], v1)), by repeat (first | exact trivial | refine And.intro rfl ?_), by repeat (first | with_reducible exact Same.refl | refine Same.upd rfl ?_ | refine Same.upds rfl ?_ | refine Same.mix rfl ?_), ?_, ?_⟩
      · exact ⟨by assumption, by omega, by simp; omega, by assumption, rj_next hrj hd h10 hr⟩
      · simp only; omega

end Go.Proofs.YtgphoihilheoeaaDoor
