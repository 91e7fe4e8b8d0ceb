/- Walks: rows of one's own, marked. -/
import Derived.Test.YtlalfmialbolhaaHsWGen2
namespace Go.Proofs.Ytlalfmialbolhaa
open Go.Hs
set_option maxRecDepth 10000
set_option maxHeartbeats 4000000
set_option linter.unusedVariables false
set_option linter.unusedSimpArgs false

theorem marks_set {k0 : Int} {xs : List Int} {k : Nat} (h : k < xs.length) : (marks k0 k ++ xs.drop k).set k (k0 + (k : Int)) = marks k0 (k + 1) ++ xs.drop (k + 1) := by
  rw [List.set_append_right _ _ (by rw [marks_len]; omega), marks_len, Nat.sub_self, List.drop_eq_getElem_cons h, List.set_cons_zero]
  simp [marks, List.range_succ]
theorem markIntS_ok (w : World) {lo hi : Nat} (v : Value) (xs : List Int) (h : OwnedB lo hi XI w v xs) (k0 : Int) (hk0 : 0 ≤ k0 ∧ k0 ≤ 1099511627776) (hn : xs.length ≤ 1099511627776) :
    Does Try.prog 67 [v, .int .i64 k0] w (RetSO lo hi w (.int .i64 (k0 + xs.length)) XI v (marks k0 xs.length)) := by
  by_cases h0 : xs = []
  · subst h0
    refine fn_of_W1 Try.func67 rfl Try.results67 Try.ntmps67 rfl ?_
    focus
      refine W_seq ?_; refine W_region rfl ?_; refine Wo rfl (opv_assign (v := .int _ _) rfl) ?_; refine Wo_nil ?_; refine W_seq ?_; refine W_seq ?_; refine W_region rfl ?_; refine Wo rfl (opv_assign (v := .int _ _) rfl) ?_
      refine Wo_nil ?_; refine W_block ?_
    refine W_loop [1, 5, 6, 7, 8, 9, 10, 11, 12, 13, 14, 15, 16, 17] (fun (k : Nat) => [(5, .int .i64 (k : Nat)), (1, .int .i64 k0)]) (fun k w' => w' = w ∧ k = 0) (fun x => 0) 0 (by repeat (first | exact trivial | refine And.intro rfl ?_)) ?_ ?_
    · exact ⟨rfl, rfl⟩
    rintro k ρj w1 ⟨rfl, rfl⟩
    focus
      refine W_seq ?_; refine W_seq ?_; refine W_region rfl ?_; refine Wo rfl (opv_move (v := .int _ _) rfl) ?_; refine Wo rfl (opv_move (v := v) rfl) ?_; refine Wo rfl (opv_len Try.underlying23 rfl (OwnedB.read h)) ?_
      refine Wo rfl (opv_lss rfl rfl) ?_; refine Wo_nil ?_; refine W_cond_dec rfl (fun h1 => ?_) (fun h1 => ?_); contradiction; refine W_exit ?_; refine exitX_same ?_; refine W_seq ?_; refine W_region rfl ?_
      refine Wo rfl (opv_move (v := .int _ _) rfl) ?_; refine Wo rfl (opv_assign (v := .int _ _) rfl) ?_; refine Wo_nil ?_; refine W_ret ?_; refine at_ret (v := .int _ _) rfl ?_
    exact ⟨by simp, Span.refl, h⟩
  obtain ⟨b, c, rfl, hc⟩ := h.o.lit (List.length_pos_iff.2 h0)
  have hb : lo ≤ b ∧ b < hi := by
    obtain ⟨fp, h1, h2, cs, fps, h3, rfl, h5⟩ := h
    exact h2 b (by simp [Value.ownBlock])
  refine fn_of_W1 Try.func67 rfl Try.results67 Try.ntmps67 rfl ?_
  focus
    refine W_seq ?_; refine W_region rfl ?_; refine Wo rfl (opv_assign (v := .int _ _) rfl) ?_; refine Wo_nil ?_; refine W_seq ?_; refine W_seq ?_; refine W_region rfl ?_; refine Wo rfl (opv_assign (v := .int _ _) rfl) ?_
    refine Wo_nil ?_; refine W_block ?_
  refine W_loop [1, 5, 6, 7, 8, 9, 10, 11, 12, 13, 14, 15, 16, 17] (fun (k, m) => [(5, .int .i64 (k : Nat)), (1, .int .i64 (m : Int))]) (fun (k, m) w' => Span lo hi w w' ∧ k ≤ xs.length ∧ m = k0 + (k : Nat) ∧ OwnedB lo hi XI w' (.slice (some ⟨b, 0, none⟩) xs.length c) (marks k0 k ++ xs.drop k)) (fun x => xs.length - x.1) (0, k0) (by repeat (first | exact trivial | refine And.intro rfl ?_)) ?_ ?_
  · exact ⟨Span.refl, Nat.zero_le _, by simp, by simpa [marks] using h⟩
  rintro ⟨k, m⟩ ρj w1 ⟨S1, hk, hm0, hO1⟩
  have hml : (marks k0 k ++ xs.drop k).length = xs.length := by simp [marks_len]; omega
  have hle := hO1.len_le
  focus
    refine W_seq ?_; refine W_seq ?_; refine W_region rfl ?_; refine Wo rfl (opv_move (v := .int _ _) rfl) ?_; refine Wo rfl (opv_move (v := .slice _ _ _) rfl) ?_; refine Wo rfl (opv_len Try.underlying23 rfl (OwnedB.read hO1)) ?_
    refine Wo rfl (opv_lss rfl rfl) ?_; refine Wo_nil ?_; refine W_cond_dec rfl (fun h1 => ?_) (fun h1 => ?_); refine W_skip ?_; refine W_seq ?_; refine W_block ?_; refine W_seq ?_; refine W_region rfl ?_
    refine Wo rfl (opv_move (v := .slice _ _ _) rfl) ?_; refine Wo rfl (opv_move (v := .int _ _) rfl) ?_; refine Wo rfl (opv_move (v := .int _ _) rfl) ?_; refine Wo rfl (opv_indexAddr Try.underlying23 Try.sizeOf3 rfl rfl (by omega)) ?_
    refine Wo_set rfl Try.sizeOf3 rfl rfl hO1 (by first | omega | (simp <;> omega)) Owned.int (Nat.le_refl _) (by omega) ?_; rintro w2 hO1 On1 K1 hz1; have hs1 := On1.size; refine Wo_nil ?_; refine W_region rfl ?_
    refine Wo rfl (opv_move (v := .int _ _) rfl) ?_; refine Wo rfl (opv_add rfl rfl (by omega)) ?_; refine Wo rfl (opv_assign (v := .int _ _) rfl) ?_; refine Wo_nil ?_; refine W_region rfl ?_
    refine Wo rfl (opv_move (v := .int _ _) rfl) ?_; refine Wo rfl (opv_add rfl rfl (by omega)) ?_; refine Wo rfl (opv_assign (v := .int _ _) rfl) ?_; refine Wo_nil ?_; rotate_left; refine W_exit ?_; refine exitX_same ?_
    refine W_seq ?_; refine W_region rfl ?_; refine Wo rfl (opv_move (v := .int _ _) rfl) ?_; refine Wo rfl (opv_assign (v := .int _ _) rfl) ?_; refine Wo_nil ?_; refine W_ret ?_; refine at_ret (v := .int _ _) rfl ?_; rotate_left
  · refine ⟨((k + 1, m + 1)), by repeat (first | exact trivial | refine And.intro rfl ?_), by repeat (first | with_reducible exact Same.refl | refine Same.upd rfl ?_ | refine Same.upds rfl ?_ | refine Same.mix rfl ?_), ?_, ?_⟩
    · refine ⟨S1.trans (Span.only1 (by assumption) hb.1 hb.2), by omega, by omega, ?_⟩
      rw [← marks_set (by omega)]
      rw [← hm0]
      obtain ⟨fp, h1, h2, h3⟩ := hO1
      refine ⟨fp, h1, fun k hk => ⟨h2 k hk, ?_⟩, h3⟩
      obtain ⟨cs, fps, h3, rfl, h5⟩ := h3
      have : fps.flatten = [] := XInt_flat h5
      rw [this] at hk
      simp [Value.ownBlock] at hk
      omega
    · simp only; omega
  · obtain rfl : k = xs.length := by omega
    exact ⟨by rw [hm0], S1, by simpa using hO1⟩

theorem marksS_take (k0 : Int) (p : List (List Int)) (k : Nat) : (marksS k0 p).take k = marksS k0 (p.take k) := by
  induction p generalizing k k0 with
  | nil => simp [marksS]
  | cons a p ih => cases k with
    | zero => simp [marksS]
    | succ k => simp [marksS, ih]
theorem marksS_snoc (k0 : Int) (p : List (List Int)) (r : List Int) : marksS k0 (p ++ [r]) = marksS k0 p ++ [marks (k0 + total p) r.length] := by
  induction p generalizing k0 with
  | nil => simp [marksS, total]
  | cons a p ih => simp [marksS, total, ih]; congr 1; omega
theorem marksS_len (k0 : Int) (p : List (List Int)) : (marksS k0 p).length = p.length := by
  induction p generalizing k0 with
  | nil => rfl
  | cons a p ih => simp [marksS, ih]
theorem marksS_set {k0 : Int} {p : List (List Int)} {k : Nat} (h : k < p.length) : (marksS k0 (p.take k) ++ p.drop k).set k (marks (k0 + total (p.take k)) p[k].length) = marksS k0 (p.take (k + 1)) ++ p.drop (k + 1) := by
  have hl : (marksS k0 (p.take k)).length = k := by rw [marksS_len]; simp; omega
  rw [List.set_append_right _ _ (by omega), hl, Nat.sub_self, List.drop_eq_getElem_cons h, List.set_cons_zero, take_snoc _ _ h, marksS_snoc]
  simp
theorem markIntSS_ok (w : World) {lo hi : Nat} (v : Value) (p : List (List Int)) (h : OwnedB lo hi XR w v p) (k0 : Int) (hk0 : 0 ≤ k0 ∧ k0 ≤ 1048576) (hn : p.length ≤ 1048576) (ht : total p ≤ 1099511627776 - 1048576) :
    Does Try.prog 43 [v, .int .i64 k0] w (RetSO lo hi w (.int .i64 (k0 + total p)) XR v (marksS k0 p)) := by
  by_cases h0 : p = []
  · subst h0
    refine fn_of_W1 Try.func43 rfl Try.results43 Try.ntmps43 rfl ?_
    focus
      refine W_seq ?_; refine W_region rfl ?_; refine Wo rfl (opv_assign (v := .int _ _) rfl) ?_; refine Wo_nil ?_; refine W_seq ?_; refine W_seq ?_; refine W_region rfl ?_; refine Wo rfl (opv_assign (v := .int _ _) rfl) ?_
      refine Wo_nil ?_; refine W_block ?_
    refine W_loop [1, 5, 6, 7, 8, 9, 10, 11, 12, 13, 14, 15, 16, 17] (fun (k : Nat) => [(5, .int .i64 (k : Nat)), (1, .int .i64 k0)]) (fun k w' => w' = w ∧ k = 0) (fun x => 0) 0 (by repeat (first | exact trivial | refine And.intro rfl ?_)) ?_ ?_
    · exact ⟨rfl, rfl⟩
    rintro k ρj w1 ⟨rfl, rfl⟩
    focus
      refine W_seq ?_; refine W_seq ?_; refine W_region rfl ?_; refine Wo rfl (opv_move (v := .int _ _) rfl) ?_; refine Wo rfl (opv_move (v := v) rfl) ?_; refine Wo rfl (opv_len Try.underlying50 rfl (OwnedB.read h)) ?_
      refine Wo rfl (opv_lss rfl rfl) ?_; refine Wo_nil ?_; refine W_cond_dec rfl (fun h1 => ?_) (fun h1 => ?_); contradiction; refine W_exit ?_; refine exitX_same ?_; refine W_seq ?_; refine W_region rfl ?_
      refine Wo rfl (opv_move (v := .int _ _) rfl) ?_; refine Wo rfl (opv_assign (v := .int _ _) rfl) ?_; refine Wo_nil ?_; refine W_ret ?_; refine at_ret (v := .int _ _) rfl ?_
    exact ⟨by simp [total], Span.refl, h⟩
  obtain ⟨b, c, rfl, hc⟩ := h.o.lit (List.length_pos_iff.2 h0)
  obtain ⟨fp, hnd, hfp, hX⟩ := h
  refine fn_of_W1 Try.func43 rfl Try.results43 Try.ntmps43 rfl ?_
  focus
    refine W_seq ?_; refine W_region rfl ?_; refine Wo rfl (opv_assign (v := .int _ _) rfl) ?_; refine Wo_nil ?_; refine W_seq ?_; refine W_seq ?_; refine W_region rfl ?_; refine Wo rfl (opv_assign (v := .int _ _) rfl) ?_
    refine Wo_nil ?_; refine W_block ?_
  refine W_loop [1, 5, 6, 7, 8, 9, 10, 11, 12, 13, 14, 15, 16, 17] (fun (k, m) => [(5, .int .i64 (k : Nat)), (1, .int .i64 (m : Int))]) (fun (k, m) w' => Span lo hi w w' ∧ k ≤ p.length ∧ m = k0 + (total (p.take k) : Nat) ∧ XR w' fp (.slice (some ⟨b, 0, none⟩) p.length c) (marksS k0 (p.take k) ++ p.drop k)) (fun x => p.length - x.1) (0, k0) (by repeat (first | exact trivial | refine And.intro rfl ?_)) ?_ ?_
  · exact ⟨Span.refl, Nat.zero_le _, by simp [total], by simpa [marksS] using hX⟩
  rintro ⟨k, m⟩ ρj w1 ⟨S1, hk, hm0, hX1⟩
  have hml : (marksS k0 (p.take k) ++ p.drop k).length = p.length := by simp [marksS_len]; omega
  by_cases hlt : k < p.length
  · have htk := total_ge p hlt
    have htl := total_take_le p (k + 1)
    obtain ⟨b', c', f, u, e, hcell, hXu, hfn, hsub, hback⟩ := hX1.lens hnd (i := k) (by omega)
    simp only [Value.slice.injEq, Option.some.injEq, Addr.mk.injEq] at e
    obtain ⟨⟨rfl, _⟩, _, rfl⟩ := e
    have hrow : (marksS k0 (p.take k) ++ p.drop k)[k]'(by omega) = p[k] := by
      rw [List.getElem_append_right (by rw [marksS_len]; simp; omega)]
      simp [marksS_len, Nat.min_eq_left hk]
    rw [hrow] at hXu
    have hfe := XI_fp hXu
    have hcall : ∀ w2, w2 = w1 → Does Try.prog 67 [u, .int .i64 m] w2 (RetS lo hi w2 (Value.int .i64) (fun n w' => n = m + p[k].length ∧ XR w' fp (.slice (some ⟨b, 0, none⟩) p.length c) (marksS k0 (p.take (k + 1)) ++ p.drop (k + 1)))) := by
      rintro w2 rfl
      obtain ⟨lb, hb, hin, hlo⟩ : ∃ lb hb, (∀ k ∈ f, lb ≤ k ∧ k < hb) ∧ (∀ k, lb ≤ k → k < hb → k ∈ f) := by
        cases hob : u.ownBlock with
        | none => rw [hob] at hfe; subst hfe; exact ⟨0, 0, by simp, fun k _ h => by omega⟩
        | some br => rw [hob] at hfe; subst hfe; exact ⟨br, br + 1, by simp, fun k h1 h2 => by simp; omega⟩
      refine (markIntS_ok w2 (lo := lb) (hi := hb) u p[k] ⟨f, hfn, hin, hXu⟩ m (by omega) (by omega)).mono ?_
      rintro r w3 ⟨rfl, Sp, fp', h1, h2, h3⟩
      have hfe' := XI_fp h3
      have hff : fp' = f := hfe'.trans hfe.symm
      subst hff
      refine ⟨_, rfl, ⟨Sp.os, Sp.tape, Sp.output, Sp.size, fun j hj hl => Sp.block j ?_ hl⟩, rfl, ?_⟩
      · rcases Nat.lt_or_ge j lb with h5 | h5
        · exact .inl h5
        · right
          rcases Nat.lt_or_ge j hb with h6 | h6
          · have := hfp j (hsub j (hlo j h5 h6)); omega
          · exact h6
      · have := hback w3 _ (fun j hj hl => Sp.block j (by
          rcases Nat.lt_or_ge j lb with h5 | h5
          · exact .inl h5
          · right
            rcases Nat.lt_or_ge j hb with h6 | h6
            · exact absurd (hlo j h5 h6) hj
            · exact h6) hl) h3
        rw [hm0, marksS_set hlt] at this
        exact this
    have hcell' : w1.cell? ⟨b, 0 + k, none⟩ = some u := by rw [Nat.zero_add]; exact hcell
    clear hback hX1
    focus
      refine W_seq ?_; refine W_seq ?_; refine W_region rfl ?_; refine Wo rfl (opv_move (v := .int _ _) rfl) ?_; refine Wo rfl (opv_move (v := .slice _ _ _) rfl) ?_; refine Wo rfl (opv_len_slice Try.underlying50 rfl) ?_
      refine Wo rfl (opv_lss rfl rfl) ?_; refine Wo_nil ?_; refine W_cond_dec rfl (fun h1 => ?_) (fun h1 => ?_); refine W_skip ?_; refine W_seq ?_; refine W_block ?_; refine W_region rfl ?_
      refine Wo rfl (opv_move (v := .slice _ _ _) rfl) ?_; refine Wo rfl (opv_move (v := .int _ _) rfl) ?_; refine Wo rfl (opv_indexAddr Try.underlying50 Try.sizeOf23 rfl rfl (by omega)) ?_
      refine Wo rfl (opv_load Try.isAgg23 rfl (by assumption)) ?_; refine Wo rfl (opv_move (v := .int _ _) rfl) ?_; refine Wo_call rfl (opc2 (a := u) (b := .int _ _) Try.call67 rfl rfl) (hcall _ (by rfl)) ?_
      rintro _ w2 ⟨y1, rfl, E1, hy1⟩; have hs1 := E1.size; refine Wo rfl (opv_assign (v := .int _ _) rfl) ?_; refine Wo_nil ?_; refine W_region rfl ?_; refine Wo rfl (opv_move (v := .int _ _) rfl) ?_
      refine Wo rfl (opv_add rfl rfl (by omega)) ?_; refine Wo rfl (opv_assign (v := .int _ _) rfl) ?_; refine Wo_nil ?_; rotate_left; (exfalso; omega)
    refine ⟨((k + 1, _)), by repeat (first | exact trivial | refine And.intro rfl ?_), by repeat (first | with_reducible exact Same.refl | refine Same.upd rfl ?_ | refine Same.upds rfl ?_ | refine Same.mix rfl ?_), ?_, ?_⟩
    · refine ⟨S1.trans (by assumption), by omega, ?_, hy1.2⟩
      rw [hy1.1, hm0, htk]; omega
    · simp only; omega
  · obtain rfl : k = p.length := by omega
    focus
      refine W_seq ?_; refine W_seq ?_; refine W_region rfl ?_; refine Wo rfl (opv_move (v := .int _ _) rfl) ?_; refine Wo rfl (opv_move (v := .slice _ _ _) rfl) ?_; refine Wo rfl (opv_len_slice Try.underlying50 rfl) ?_
      refine Wo rfl (opv_lss rfl rfl) ?_; refine Wo_nil ?_; refine W_cond_dec rfl (fun h1 => ?_) (fun h1 => ?_); (exfalso; omega); refine W_exit ?_; refine exitX_same ?_; refine W_seq ?_; refine W_region rfl ?_
      refine Wo rfl (opv_move (v := .int _ _) rfl) ?_; refine Wo rfl (opv_assign (v := .int _ _) rfl) ?_; refine Wo_nil ?_; refine W_ret ?_; refine at_ret (v := .int _ _) rfl ?_
    exact ⟨by rw [hm0, List.take_length], S1, fp, hnd, hfp, by simpa using hX1⟩

end Go.Proofs.Ytlalfmialbolhaa
