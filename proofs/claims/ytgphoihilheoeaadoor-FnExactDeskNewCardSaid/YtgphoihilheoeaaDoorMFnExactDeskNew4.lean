/- Lemmas for FnExactDeskNew. -/
import Derived.Test.YtgphoihilheoeaaDoorMFnExactDeskNew3
namespace Go.Proofs.YtgphoihilheoeaaDoor
open Go.Hs
set_option maxRecDepth 10000
set_option maxHeartbeats 4000000
set_option linter.unusedVariables false
set_option linter.unusedSimpArgs false

theorem eqIntSSS_ok (w : World) (v u : Value) (xs ys : List (List (List Int))) (h : ESl (ESl Ints) w v xs) (h' : ESl (ESl Ints) w u ys) : Does Tryd.prog 64 [v, u] w (Ret w (.bool (decide (xs = ys)))) := by
  have hle := h.le
  have hle' := h'.le
  refine fn_of_W1 Tryd.func64 rfl Tryd.results64 Tryd.ntmps64 rfl ?_
  focus
    refine W_seq ?_; refine W_region rfl ?_; refine Wo rfl (opv_assign (v := .bool _) rfl) ?_; refine Wo_nil ?_; refine W_seq ?_; refine W_seq ?_; refine W_region rfl ?_; refine Wo rfl (opv_move (v := v) rfl) ?_
    refine Wo rfl (opv_len Tryd.underlying51 rfl h) ?_; refine Wo rfl (opv_move (v := u) rfl) ?_; refine Wo rfl (opv_len Tryd.underlying51 rfl h') ?_; refine Wo rfl (opv_neq rfl rfl) ?_; refine Wo_nil ?_
    refine W_cond_ndec rfl (fun h1 => ?_) (fun h1 => ?_); refine W_seq ?_; refine W_region rfl ?_; refine Wo rfl (opv_assign (v := .bool _) rfl) ?_; refine Wo_nil ?_; refine W_ret ?_; refine at_ret (v := .bool _) rfl ?_
    refine ⟨congrArg Value.bool ?_, (Ext.refl _)⟩; rotate_left; refine W_skip ?_; refine W_seq ?_; refine W_seq ?_; refine W_region rfl ?_; refine Wo rfl (opv_assign (v := .int _ _) rfl) ?_; refine Wo_nil ?_; refine W_block ?_
    rotate_left
  · exact (decide_eq_false (fun e => by subst e; omega)).symm
  refine W_loop [4, 5, 11, 12, 13, 14, 15, 16, 17, 18, 19, 20, 21, 22, 23, 24, 25, 26] (fun (k : Nat) => [(5, .int .i64 (k : Nat))]) (fun k w' => Ext w w' ∧ k ≤ xs.length ∧ xs.take k = ys.take k) (fun x => xs.length - x) 0 (by repeat (first | exact trivial | refine And.intro rfl ?_)) ?_ ?_
  · exact ⟨Ext.refl _, Nat.zero_le _, by simp⟩
  rintro k ρj w1 ⟨E1, hk, he⟩
  focus
    have szE1 := E1.size; refine W_seq ?_; refine W_seq ?_; refine W_region rfl ?_; refine Wo rfl (opv_move (v := .int _ _) rfl) ?_; refine Wo rfl (opv_move (v := v) rfl) ?_; refine Wo rfl (opv_len Tryd.underlying51 rfl h) ?_
    refine Wo rfl (opv_lss rfl rfl) ?_; refine Wo_nil ?_; refine W_cond_dec rfl (fun h2 => ?_) (fun h2 => ?_); refine W_skip ?_; refine W_seq ?_; refine W_block ?_; refine W_seq ?_; refine W_draw mixed (by kernel_rfl) rfl ?_
    refine Wq_o rfl (fun _ _ => opv_move (v := v) rfl) ?_; refine Wq_o rfl (fun _ _ => opv_move (v := .int _ _) rfl) ?_
    refine Wq_get Tryd.underlying51 Tryd.sizeOf49 Tryd.isAgg49 rfl (fun _ => rfl) rfl h E1 rfl (by first | omega | (simp <;> omega)) ?_; rintro _ u1 hu1; refine Wq_o rfl (fun _ _ => opv_move (v := u) rfl) ?_
    refine Wq_o rfl (fun _ _ => opv_move (v := .int _ _) rfl) ?_; refine Wq_get Tryd.underlying51 Tryd.sizeOf49 Tryd.isAgg49 rfl (fun _ => rfl) rfl h' E1 rfl (by first | omega | (simp <;> omega)) ?_; rintro _ u2 hu2
    refine Wq_call rfl (fun _ _ => opc2 (a := u1) (b := u2) Tryd.call37 rfl rfl) (fun w' hw' => (eqIntSS_ok _ _ _ _ _ ((Mono.mono (E1.trans hw') hu1)) ((Mono.mono (E1.trans hw') hu2)))) ?_; refine Wq_o rfl (fun _ _ => opv_not rfl) ?_
    refine Wq_nil (fun w2 E2 => ?_); have hs1 := E2.size; refine W_cond_ndec rfl (fun h3 => ?_) (fun h3 => ?_); refine W_seq ?_; refine W_region rfl ?_; refine Wo rfl (opv_assign (v := .bool _) rfl) ?_; refine Wo_nil ?_; refine W_ret ?_
    refine at_ret (v := .bool _) rfl ?_; refine ⟨congrArg Value.bool ?_, (E1.trans E2)⟩; rotate_left; refine W_skip ?_; refine W_region rfl ?_; refine Wo rfl (opv_move (v := .int _ _) rfl) ?_
    refine Wo rfl (opv_add rfl rfl (by omega)) ?_; refine Wo rfl (opv_assign (v := .int _ _) rfl) ?_; refine Wo_nil ?_; rotate_left; refine W_exit ?_; refine exitX_same ?_; refine W_seq ?_; refine W_region rfl ?_
    refine Wo rfl (opv_assign (v := .bool _) rfl) ?_; refine Wo_nil ?_; refine W_ret ?_; refine at_ret (v := .bool _) rfl ?_; refine ⟨congrArg Value.bool ?_, E1⟩; rotate_left
  · exact (decide_eq_false (ne_at (k := k) (by omega) (by omega) (by assumption))).symm
  · refine ⟨(k + 1), by repeat (first | exact trivial | refine And.intro rfl ?_), by repeat (first | with_reducible exact Same.refl | refine Same.upd rfl ?_ | refine Same.upds rfl ?_ | refine Same.mix rfl ?_), ?_, ?_⟩
    · exact ⟨E1.trans E2, by omega, (take_eq_snoc (by omega) (by omega)).2 ⟨he, by assumption⟩⟩
    · omega
  · obtain rfl : k = xs.length := by omega
    exact (decide_eq_true (ext_take (by omega) he)).symm

theorem markIntSS_mf (w : World) {fp : List Nat} (v : Value) (p : List (List Int)) (hX : XR w fp v p) (hnd : fp.Nodup) (k0 : Int) (hk0 : 0 ≤ k0 ∧ k0 ≤ 1099511627776) (hn : p.length ≤ 1048576) (ht : k0 + total p ≤ 1099511627776) :
    Does Tryd.prog 38 [v, .int .i64 k0] w (RetMF fp w (.int .i64 (k0 + total p)) XR v (marksS k0 p)) := by
  by_cases h0 : p = []
  · subst h0
    have hR : ESl Ints w v [] := Shows.shows hX
    refine fn_of_W1 Tryd.func38 rfl Tryd.results38 Tryd.ntmps38 rfl ?_
    focus
      refine W_seq ?_; refine W_region rfl ?_; refine Wo rfl (opv_assign (v := .int _ _) rfl) ?_; refine Wo_nil ?_; refine W_seq ?_; refine W_seq ?_; refine W_region rfl ?_; refine Wo rfl (opv_assign (v := .int _ _) rfl) ?_
      refine Wo_nil ?_; refine W_block ?_
    refine W_loop [1, 5, 6, 7, 8, 9, 10, 11, 12, 13, 14, 15, 16, 17] (fun (k : Nat) => [(5, .int .i64 (k : Nat)), (1, .int .i64 k0)]) (fun k w' => w' = w ∧ k = 0) (fun x => 0) 0 (by repeat (first | exact trivial | refine And.intro rfl ?_)) ?_ ?_
    · exact ⟨rfl, rfl⟩
    rintro k ρj w1 ⟨rfl, rfl⟩
    focus
      refine W_seq ?_; refine W_seq ?_; refine W_region rfl ?_; refine Wo rfl (opv_move (v := .int _ _) rfl) ?_; refine Wo rfl (opv_move (v := v) rfl) ?_; refine Wo rfl (opv_len Tryd.underlying49 rfl hR) ?_
      refine Wo rfl (opv_lss rfl rfl) ?_; refine Wo_nil ?_; refine W_cond_dec rfl (fun h1 => ?_) (fun h1 => ?_); contradiction; refine W_exit ?_; refine exitX_same ?_; refine W_seq ?_; refine W_region rfl ?_
      refine Wo rfl (opv_move (v := .int _ _) rfl) ?_; refine Wo rfl (opv_assign (v := .int _ _) rfl) ?_; refine Wo_nil ?_; refine W_ret ?_; refine at_ret (v := .int _ _) rfl ?_
    exact ⟨by simp [total], Only.refl, hX⟩
  obtain ⟨b, c, _, _, rfl, _⟩ := hX.lens hnd (i := 0) (List.length_pos_iff.2 h0)
  refine fn_of_W1 Tryd.func38 rfl Tryd.results38 Tryd.ntmps38 rfl ?_
  focus
    refine W_seq ?_; refine W_region rfl ?_; refine Wo rfl (opv_assign (v := .int _ _) rfl) ?_; refine Wo_nil ?_; refine W_seq ?_; refine W_seq ?_; refine W_region rfl ?_; refine Wo rfl (opv_assign (v := .int _ _) rfl) ?_
    refine Wo_nil ?_; refine W_block ?_
  refine W_loop [1, 5, 6, 7, 8, 9, 10, 11, 12, 13, 14, 15, 16, 17] (fun (k, m) => [(5, .int .i64 (k : Nat)), (1, .int .i64 (m : Int))]) (fun (k, m) w' => Only fp w w' ∧ k ≤ p.length ∧ m = k0 + (total (p.take k) : Nat) ∧ XR w' fp (.slice (some ⟨b, 0, none⟩) p.length c) (marksS k0 (p.take k) ++ p.drop k)) (fun x => p.length - x.1) (0, k0) (by repeat (first | exact trivial | refine And.intro rfl ?_)) ?_ ?_
  · exact ⟨Only.refl, Nat.zero_le _, by simp [total], by simpa [marksS] using hX⟩
  rintro ⟨k, m⟩ ρj w1 ⟨S1, hk, hm0, hX1⟩
  have hml : (marksS k0 (p.take k) ++ p.drop k).length = p.length := by simp [marksS_len]; omega
  by_cases hlt : k < p.length
  · have htk := total_ge p hlt
    have htl := total_take_le p (k + 1)
    obtain ⟨b', c', f, u, e, hcell, hXu, hfn, hsub, hback⟩ := hX1.lens hnd (i := k) (by omega)
    simp only [Value.slice.injEq, Option.some.injEq, Addr.mk.injEq] at e
    obtain ⟨⟨rfl, _⟩, _, rfl⟩ := e
    have hrow : (marksS k0 (p.take k) ++ p.drop k)[k]'(by omega) = p[k] := by
      rw [List.getElem_append_right (by rw [marksS_len]; simp; omega)]
      simp [marksS_len, Nat.min_eq_left hk]
    rw [hrow] at hXu
    have hfe := XI_fp hXu
    have hcall : ∀ w2, w2 = w1 → Does Tryd.prog 66 [u, .int .i64 m] w2 (RetS 0 w2.heap.size w2 (Value.int .i64) (fun n w' => n = m + p[k].length ∧ Only fp w2 w' ∧ XR w' fp (.slice (some ⟨b, 0, none⟩) p.length c) (marksS k0 (p.take (k + 1)) ++ p.drop (k + 1)))) := by
      rintro w2 rfl
      obtain ⟨lb, hb, hin, hlo⟩ : ∃ lb hb, (∀ k ∈ f, lb ≤ k ∧ k < hb) ∧ (∀ k, lb ≤ k → k < hb → k ∈ f) := by
        cases hob : u.ownBlock with
        | none => rw [hob] at hfe; subst hfe; exact ⟨0, 0, by simp, fun k _ h => by omega⟩
        | some br => rw [hob] at hfe; subst hfe; exact ⟨br, br + 1, by simp, fun k h1 h2 => by simp; omega⟩
      refine (markIntS_ok w2 (lo := lb) (hi := hb) u p[k] ⟨f, hfn, hin, hXu⟩ m (by omega) (by omega)).mono ?_
      rintro r w3 ⟨rfl, Sp, fp', h1, h2, h3⟩
      have hfe' := XI_fp h3
      have hff : fp' = f := hfe'.trans hfe.symm
      subst hff
      have hblk : ∀ j, j ∉ fp' → j < w2.heap.size → w3.heap[j]? = w2.heap[j]? := fun j hj hl => Sp.block j (by
        rcases Nat.lt_or_ge j lb with h5 | h5
        · exact .inl h5
        · right
          rcases Nat.lt_or_ge j hb with h6 | h6
          · exact absurd (hlo j h5 h6) hj
          · exact h6) hl
      refine ⟨_, rfl, ⟨Sp.os, Sp.tape, Sp.output, Sp.size, fun j hj hl => by omega⟩, rfl, ⟨Sp.os, Sp.tape, Sp.output, Sp.size, fun j hj hl => hblk j (fun hm => hj (hsub j hm)) hl⟩, ?_⟩
      have := hback w3 _ hblk h3
      rw [hm0, marksS_set hlt] at this
      exact this
    have hcell' : w1.cell? ⟨b, 0 + k, none⟩ = some u := by rw [Nat.zero_add]; exact hcell
    clear hback hX1
    focus
      refine W_seq ?_; refine W_seq ?_; refine W_region rfl ?_; refine Wo rfl (opv_move (v := .int _ _) rfl) ?_; refine Wo rfl (opv_move (v := .slice _ _ _) rfl) ?_; refine Wo rfl (opv_len_slice Tryd.underlying49 rfl) ?_
      refine Wo rfl (opv_lss rfl rfl) ?_; refine Wo_nil ?_; refine W_cond_dec rfl (fun h1 => ?_) (fun h1 => ?_); refine W_skip ?_; refine W_seq ?_; refine W_block ?_; refine W_region rfl ?_
      refine Wo rfl (opv_move (v := .slice _ _ _) rfl) ?_; refine Wo rfl (opv_move (v := .int _ _) rfl) ?_; refine Wo rfl (opv_indexAddr Tryd.underlying49 Tryd.sizeOf80 rfl rfl (by omega)) ?_
      refine Wo rfl (opv_load Tryd.isAgg80 rfl (by assumption)) ?_; refine Wo rfl (opv_move (v := .int _ _) rfl) ?_; refine Wo_call rfl (opc2 (a := u) (b := .int _ _) Tryd.call66 rfl rfl) (hcall _ (by rfl)) ?_
      rintro _ w2 ⟨y1, rfl, E1, hy1⟩; have hs1 := E1.size; refine Wo rfl (opv_assign (v := .int _ _) rfl) ?_; refine Wo_nil ?_; refine W_region rfl ?_; refine Wo rfl (opv_move (v := .int _ _) rfl) ?_
      refine Wo rfl (opv_add rfl rfl (by omega)) ?_; refine Wo rfl (opv_assign (v := .int _ _) rfl) ?_; refine Wo_nil ?_; rotate_left; (exfalso; omega)
    refine ⟨((k + 1, y1)), by repeat (first | exact trivial | refine And.intro rfl ?_), by repeat (first | with_reducible exact Same.refl | refine Same.upd rfl ?_ | refine Same.upds rfl ?_ | refine Same.mix rfl ?_), ?_, ?_⟩
    · refine ⟨S1.trans hy1.2.1, by omega, ?_, hy1.2.2⟩
      rw [hy1.1, hm0, htk]; omega
    · simp only; omega
  · obtain rfl : k = p.length := by omega
    focus
      refine W_seq ?_; refine W_seq ?_; refine W_region rfl ?_; refine Wo rfl (opv_move (v := .int _ _) rfl) ?_; refine Wo rfl (opv_move (v := .slice _ _ _) rfl) ?_; refine Wo rfl (opv_len_slice Tryd.underlying49 rfl) ?_
      refine Wo rfl (opv_lss rfl rfl) ?_; refine Wo_nil ?_; refine W_cond_dec rfl (fun h1 => ?_) (fun h1 => ?_); (exfalso; omega); refine W_exit ?_; refine exitX_same ?_; refine W_seq ?_; refine W_region rfl ?_
      refine Wo rfl (opv_move (v := .int _ _) rfl) ?_; refine Wo rfl (opv_assign (v := .int _ _) rfl) ?_; refine Wo_nil ?_; refine W_ret ?_; refine at_ret (v := .int _ _) rfl ?_
    exact ⟨by rw [hm0, List.take_length], S1, by simpa using hX1⟩

theorem markIntSSS_mf (w : World) {fp : List Nat} (v : Value) (p : List (List (List Int))) (hX : XSl 49 XR w fp v p) (hnd : fp.Nodup) (k0 : Int) (hk0 : 0 ≤ k0 ∧ k0 ≤ 1099511627776) (hn : p.length ≤ 1048576) (hq : ∀ q ∈ p, q.length ≤ 1048576) (ht : k0 + total3 p ≤ 1099511627776) :
    Does Tryd.prog 67 [v, .int .i64 k0] w (RetMF fp w (.int .i64 (k0 + total3 p)) (XSl 49 XR) v (marks3 k0 p)) := by
  by_cases h0 : p = []
  · subst h0
    have hR : ESl (ESl Ints) w v [] := Shows.shows hX
    refine fn_of_W1 Tryd.func67 rfl Tryd.results67 Tryd.ntmps67 rfl ?_
    focus
      refine W_seq ?_; refine W_region rfl ?_; refine Wo rfl (opv_assign (v := .int _ _) rfl) ?_; refine Wo_nil ?_; refine W_seq ?_; refine W_seq ?_; refine W_region rfl ?_; refine Wo rfl (opv_assign (v := .int _ _) rfl) ?_
      refine Wo_nil ?_; refine W_block ?_
    refine W_loop [1, 5, 6, 7, 8, 9, 10, 11, 12, 13, 14, 15, 16, 17] (fun (k : Nat) => [(5, .int .i64 (k : Nat)), (1, .int .i64 k0)]) (fun k w' => w' = w ∧ k = 0) (fun x => 0) 0 (by repeat (first | exact trivial | refine And.intro rfl ?_)) ?_ ?_
    · exact ⟨rfl, rfl⟩
    rintro k ρj w1 ⟨rfl, rfl⟩
    focus
      refine W_seq ?_; refine W_seq ?_; refine W_region rfl ?_; refine Wo rfl (opv_move (v := .int _ _) rfl) ?_; refine Wo rfl (opv_move (v := v) rfl) ?_; refine Wo rfl (opv_len Tryd.underlying51 rfl hR) ?_
      refine Wo rfl (opv_lss rfl rfl) ?_; refine Wo_nil ?_; refine W_cond_dec rfl (fun h1 => ?_) (fun h1 => ?_); contradiction; refine W_exit ?_; refine exitX_same ?_; refine W_seq ?_; refine W_region rfl ?_
      refine Wo rfl (opv_move (v := .int _ _) rfl) ?_; refine Wo rfl (opv_assign (v := .int _ _) rfl) ?_; refine Wo_nil ?_; refine W_ret ?_; refine at_ret (v := .int _ _) rfl ?_
    exact ⟨by simp [total3], Only.refl, hX⟩
  obtain ⟨b, c, _, _, rfl, _⟩ := hX.lens hnd (i := 0) (List.length_pos_iff.2 h0)
  refine fn_of_W1 Tryd.func67 rfl Tryd.results67 Tryd.ntmps67 rfl ?_
  focus
    refine W_seq ?_; refine W_region rfl ?_; refine Wo rfl (opv_assign (v := .int _ _) rfl) ?_; refine Wo_nil ?_; refine W_seq ?_; refine W_seq ?_; refine W_region rfl ?_; refine Wo rfl (opv_assign (v := .int _ _) rfl) ?_
    refine Wo_nil ?_; refine W_block ?_
  refine W_loop [1, 5, 6, 7, 8, 9, 10, 11, 12, 13, 14, 15, 16, 17] (fun (k, m) => [(5, .int .i64 (k : Nat)), (1, .int .i64 (m : Int))]) (fun (k, m) w' => Only fp w w' ∧ k ≤ p.length ∧ m = k0 + (total3 (p.take k) : Nat) ∧ XSl 49 XR w' fp (.slice (some ⟨b, 0, none⟩) p.length c) (marks3 k0 (p.take k) ++ p.drop k)) (fun x => p.length - x.1) (0, k0) (by repeat (first | exact trivial | refine And.intro rfl ?_)) ?_ ?_
  · exact ⟨Only.refl, Nat.zero_le _, by simp [total3], by simpa [marks3] using hX⟩
  rintro ⟨k, m⟩ ρj w1 ⟨S1, hk, hm0, hX1⟩
  have hml : (marks3 k0 (p.take k) ++ p.drop k).length = p.length := by simp [marks3_len]; omega
  by_cases hlt : k < p.length
  · have htk := total3_ge p hlt
    have htl := total3_take_le p (k + 1)
    obtain ⟨b', c', f, u, e, hcell, hXu, hfn, hsub, hback⟩ := hX1.lens hnd (i := k) (by omega)
    simp only [Value.slice.injEq, Option.some.injEq, Addr.mk.injEq] at e
    obtain ⟨⟨rfl, _⟩, _, rfl⟩ := e
    have hrow : (marks3 k0 (p.take k) ++ p.drop k)[k]'(by omega) = p[k] := by
      rw [List.getElem_append_right (by rw [marks3_len]; simp; omega)]
      simp [marks3_len, Nat.min_eq_left hk]
    rw [hrow] at hXu
    have hcall : ∀ w2, w2 = w1 → Does Tryd.prog 38 [u, .int .i64 m] w2 (RetS 0 w2.heap.size w2 (Value.int .i64) (fun n w' => n = m + total p[k] ∧ Only fp w2 w' ∧ XSl 49 XR w' fp (.slice (some ⟨b, 0, none⟩) p.length c) (marks3 k0 (p.take (k + 1)) ++ p.drop (k + 1)))) := by
      rintro w2 rfl
      refine (markIntSS_mf w2 u p[k] hXu hfn m (by omega) (hq _ (List.getElem_mem hlt)) (by omega)).mono ?_
      rintro r w3 ⟨rfl, O, h3⟩
      refine ⟨_, rfl, ⟨O.os, O.tape, O.output, O.size, fun j hj hl => by omega⟩, rfl, O.mono hsub, ?_⟩
      have := hback w3 _ O.block h3
      rw [hm0, marks3_set hlt] at this
      exact this
    have hcell' : w1.cell? ⟨b, 0 + k, none⟩ = some u := by rw [Nat.zero_add]; exact hcell
    clear hback hX1
    focus
      refine W_seq ?_; refine W_seq ?_; refine W_region rfl ?_; refine Wo rfl (opv_move (v := .int _ _) rfl) ?_; refine Wo rfl (opv_move (v := .slice _ _ _) rfl) ?_; refine Wo rfl (opv_len_slice Tryd.underlying51 rfl) ?_
      refine Wo rfl (opv_lss rfl rfl) ?_; refine Wo_nil ?_; refine W_cond_dec rfl (fun h1 => ?_) (fun h1 => ?_); refine W_skip ?_; refine W_seq ?_; refine W_block ?_; refine W_region rfl ?_
      refine Wo rfl (opv_move (v := .slice _ _ _) rfl) ?_; refine Wo rfl (opv_move (v := .int _ _) rfl) ?_; refine Wo rfl (opv_indexAddr Tryd.underlying51 Tryd.sizeOf49 rfl rfl (by omega)) ?_
      refine Wo rfl (opv_load Tryd.isAgg49 rfl (by assumption)) ?_; refine Wo rfl (opv_move (v := .int _ _) rfl) ?_; refine Wo_call rfl (opc2 (a := u) (b := .int _ _) Tryd.call38 rfl rfl) (hcall _ (by rfl)) ?_
      rintro _ w2 ⟨y1, rfl, E1, hy1⟩; have hs1 := E1.size; refine Wo rfl (opv_assign (v := .int _ _) rfl) ?_; refine Wo_nil ?_; refine W_region rfl ?_; refine Wo rfl (opv_move (v := .int _ _) rfl) ?_
      refine Wo rfl (opv_add rfl rfl (by omega)) ?_; refine Wo rfl (opv_assign (v := .int _ _) rfl) ?_; refine Wo_nil ?_; rotate_left; (exfalso; omega)
    refine ⟨((k + 1, y1)), by repeat (first | exact trivial | refine And.intro rfl ?_), by repeat (first | with_reducible exact Same.refl | refine Same.upd rfl ?_ | refine Same.upds rfl ?_ | refine Same.mix rfl ?_), ?_, ?_⟩
    · refine ⟨S1.trans hy1.2.1, by omega, ?_, hy1.2.2⟩
      rw [hy1.1, hm0, htk]; omega
    · simp only; omega
  · obtain rfl : k = p.length := by omega
    focus
      refine W_seq ?_; refine W_seq ?_; refine W_region rfl ?_; refine Wo rfl (opv_move (v := .int _ _) rfl) ?_; refine Wo rfl (opv_move (v := .slice _ _ _) rfl) ?_; refine Wo rfl (opv_len_slice Tryd.underlying51 rfl) ?_
      refine Wo rfl (opv_lss rfl rfl) ?_; refine Wo_nil ?_; refine W_cond_dec rfl (fun h1 => ?_) (fun h1 => ?_); (exfalso; omega); refine W_exit ?_; refine exitX_same ?_; refine W_seq ?_; refine W_region rfl ?_
      refine Wo rfl (opv_move (v := .int _ _) rfl) ?_; refine Wo rfl (opv_assign (v := .int _ _) rfl) ?_; refine Wo_nil ?_; refine W_ret ?_; refine at_ret (v := .int _ _) rfl ?_
    exact ⟨by rw [hm0, List.take_length], S1, by simpa using hX1⟩
theorem markIntSSS_ok (w : World) {lo hi : Nat} (v : Value) (p : List (List (List Int))) (h : OwnedB lo hi (XSl 49 XR) w v p) (k0 : Int) (hk0 : 0 ≤ k0 ∧ k0 ≤ 1099511627776) (hn : p.length ≤ 1048576) (hq : ∀ q ∈ p, q.length ≤ 1048576) (ht : k0 + total3 p ≤ 1099511627776) :
    Does Tryd.prog 67 [v, .int .i64 k0] w (RetSO lo hi w (.int .i64 (k0 + total3 p)) (XSl 49 XR) v (marks3 k0 p)) := by
  obtain ⟨fp, h1, h2, h3⟩ := h
  refine (markIntSSS_mf w v p h3 h1 k0 hk0 hn hq ht).mono ?_
  rintro r w' ⟨rfl, O, h4⟩
  exact ⟨rfl, Span.of_only O h2, fp, h1, h2, h4⟩

theorem heldIntSSS_ok (w : World) (v : Value) (p : List (List (List Int))) (k0 : Int) (h : ESl (ESl Ints) w v (marks3 k0 p)) (hk0 : 0 ≤ k0) (hn : p.length ≤ 1048576) (hq : ∀ q ∈ p, q.length ≤ 1048576) (ht : k0 + total3 p ≤ 1048576) : Does Tryd.prog 69 [v, .int .i64 k0] w (Ret w (.int .i64 (k0 + (total3 p : Nat)))) := by
  have hml := marks3_len k0 p
  have hle := h.le
  refine fn_of_W1 Tryd.func69 rfl Tryd.results69 Tryd.ntmps69 rfl ?_
  focus
    refine W_seq ?_; refine W_region rfl ?_; refine Wo rfl (opv_assign (v := .int _ _) rfl) ?_; refine Wo_nil ?_; refine W_seq ?_; refine W_seq ?_; refine W_region rfl ?_; refine Wo rfl (opv_assign (v := .int _ _) rfl) ?_
    refine Wo_nil ?_; refine W_block ?_
  refine W_loop [1, 4, 5, 6, 7, 8, 9, 10, 11, 12, 13, 14, 15, 16, 17, 18, 19] (fun (k, m) => [(5, .int .i64 (k : Nat)), (1, .int .i64 (m : Int))]) (fun (k, m) w' => Ext w w' ∧ k ≤ p.length ∧ m = k0 + (total3 (p.take k) : Nat)) (fun x => p.length - x.1) (0, k0) (by repeat (first | exact trivial | refine And.intro rfl ?_)) ?_ ?_
  · exact ⟨Ext.refl _, Nat.zero_le _, by simp [total3]⟩
  rintro ⟨k, m⟩ ρj w1 ⟨E1, hk, hm0⟩
  by_cases hlt : k < p.length
  · have hg := marks3_get p k0 k hlt
    have htk := total3_take_le p k
    have htk1 := total3_take_le p (k + 1)
    have hte := total3_ge p hlt
    have kH : ∀ (w : World) (u : Value), ESl Ints w u ((marks3 k0 p)[k]'(by omega)) → Does Tryd.prog 68 [u, .int .i64 m] w (Ret w (.int .i64 (k0 + (total3 (p.take (k + 1)) : Nat)))) := fun w u h => by
      rw [hg, ← hm0] at h
      have := heldIntSS_ok w u p[k] m h (by omega) (hq _ (List.getElem_mem hlt)) (by omega)
      rw [show m + ((total p[k] : Nat) : Int) = k0 + (total3 (p.take (k + 1)) : Nat) by omega] at this
      exact this
    focus
      have szE1 := E1.size; refine W_seq ?_; refine W_seq ?_; refine W_region rfl ?_; refine Wo rfl (opv_move (v := .int _ _) rfl) ?_; refine Wo rfl (opv_move (v := v) rfl) ?_; refine Wo rfl (opv_len Tryd.underlying51 rfl h) ?_
      refine Wo rfl (opv_lss rfl rfl) ?_; refine Wo_nil ?_; refine W_cond_dec rfl (fun h1 => ?_) (fun h1 => ?_); refine W_skip ?_; refine W_seq ?_; refine W_block ?_; refine W_seq ?_; refine W_region rfl ?_
      refine Wo rfl (opv_move (v := v) rfl) ?_; refine Wo rfl (opv_move (v := .int _ _) rfl) ?_; refine Wo_get Tryd.underlying51 Tryd.sizeOf49 Tryd.isAgg49 rfl (fun _ => rfl) rfl h E1 rfl (by first | omega | (simp <;> omega)) ?_
      rintro _ u1 hu1; refine Wo rfl (opv_move (v := .int _ _) rfl) ?_; refine Wo_call rfl (opc2 (a := u1) (b := .int _ _) Tryd.call68 rfl rfl) (kH _ _ ((Mono.mono E1 hu1))) ?_; rintro _ w2 ⟨rfl, E2⟩; have hs1 := E2.size
      refine Wo rfl (opv_assign (v := .int _ _) rfl) ?_; refine Wo_nil ?_; refine W_seq ?_; refine W_region rfl ?_; refine Wo rfl (opv_move (v := .int _ _) rfl) ?_; refine Wo rfl (opv_lss rfl rfl) ?_; refine Wo_nil ?_
      refine W_cond_dec rfl (fun h2 => ?_) (fun h2 => ?_); (exfalso; omega); refine W_skip ?_; refine W_region rfl ?_; refine Wo rfl (opv_move (v := .int _ _) rfl) ?_; refine Wo rfl (opv_add rfl rfl (by omega)) ?_
      refine Wo rfl (opv_assign (v := .int _ _) rfl) ?_; refine Wo_nil ?_; rotate_left; (exfalso; omega)
    refine ⟨((k + 1, k0 + (total3 (p.take (k + 1)) : Nat))), by repeat (first | exact trivial | refine And.intro rfl ?_), by repeat (first | with_reducible exact Same.refl | refine Same.upd rfl ?_ | refine Same.upds rfl ?_ | refine Same.mix rfl ?_), ?_, ?_⟩
    · exact ⟨by first | assumption | exact E1.trans E2, by omega, rfl⟩
    · simp only; omega
  · obtain rfl : k = p.length := by omega
    rw [List.take_length] at hm0
    subst hm0
    focus
      have szE1 := E1.size; refine W_seq ?_; refine W_seq ?_; refine W_region rfl ?_; refine Wo rfl (opv_move (v := .int _ _) rfl) ?_; refine Wo rfl (opv_move (v := v) rfl) ?_; refine Wo rfl (opv_len Tryd.underlying51 rfl h) ?_
      refine Wo rfl (opv_lss rfl rfl) ?_; refine Wo_nil ?_; refine W_cond_dec rfl (fun h1 => ?_) (fun h1 => ?_); (exfalso; omega); refine W_exit ?_; refine exitX_same ?_; refine W_seq ?_; refine W_region rfl ?_
      refine Wo rfl (opv_move (v := .int _ _) rfl) ?_; refine Wo rfl (opv_assign (v := .int _ _) rfl) ?_; refine Wo_nil ?_; refine W_ret ?_; exact ⟨rfl, E1⟩

theorem eqDesk_ok (w : World) (u1 u2 v1 v2 : Value) (p p' : List (List Int)) (q q' : List (List (List Int))) (h1 : ESl Ints w u1 p) (h2 : ESl (ESl Ints) w u2 q) (h3 : ESl Ints w v1 p') (h4 : ESl (ESl Ints) w v2 q') :
    Does Tryd.prog 36 [.agg #[u1, u2], .agg #[v1, v2]] w (Ret w (.bool (decide (p = p' ∧ q = q')))) := by
  refine fn_of_W1 Tryd.func36 rfl Tryd.results36 Tryd.ntmps36 rfl ?_
  focus
    refine W_seq ?_; refine W_region rfl ?_; refine Wo_box rfl rfl rfl ?_; rintro b1 w1 hb1 E1 hB1; have hlb1 := hB1.lt; have hs1 := E1.size; refine Wo_box rfl rfl rfl ?_; rintro b2 w2 hb2 E2 hB2; have hlb2 := hB2.lt
    have hs2 := E2.size; refine Wo rfl (opv_assign (v := .bool _) rfl) ?_; refine Wo_nil ?_; refine W_seq ?_; refine W_seq ?_; refine W_region rfl ?_; refine Wo rfl (opv_fieldAddr Tryd.underlying53 rfl rfl Tryd.sizeOf49 rfl) ?_
    refine Wo (v := u1) rfl (opv_load Tryd.isAgg49 rfl ((hB1.ext E2).cell rfl)) ?_; refine Wo rfl (opv_fieldAddr Tryd.underlying53 rfl rfl Tryd.sizeOf49 rfl) ?_; refine Wo (v := v1) rfl (opv_load Tryd.isAgg49 rfl (hB2.cell rfl)) ?_
    refine Wo_call rfl (opc2 (a := u1) (b := v1) Tryd.call37 rfl rfl) (eqIntSS_ok _ _ _ _ _ ((Mono.mono (E1.trans E2) h1)) ((Mono.mono (E1.trans E2) h3))) ?_; rintro _ w3 ⟨rfl, E3⟩; have hs3 := E3.size; refine Wo rfl (opv_not rfl) ?_
    refine Wo_nil ?_; refine W_cond_ndec rfl (fun h5 => ?_) (fun h5 => ?_); refine W_seq ?_; refine W_region rfl ?_; refine Wo rfl (opv_assign (v := .bool _) rfl) ?_; refine Wo_nil ?_; refine W_ret ?_
    refine at_ret (v := .bool _) rfl ?_; refine ⟨congrArg Value.bool ?_, ((E1.trans E2).trans E3)⟩; rotate_left; refine W_skip ?_; refine W_seq ?_; refine W_seq ?_; refine W_region rfl ?_
    refine Wo rfl (opv_fieldAddr Tryd.underlying53 rfl rfl Tryd.sizeOf51 rfl) ?_; refine Wo (v := u2) rfl (opv_load Tryd.isAgg51 rfl ((hB1.ext (E2.trans E3)).cell rfl)) ?_
    refine Wo rfl (opv_fieldAddr Tryd.underlying53 rfl rfl Tryd.sizeOf51 rfl) ?_; refine Wo (v := v2) rfl (opv_load Tryd.isAgg51 rfl ((hB2.ext E3).cell rfl)) ?_
    refine Wo_call rfl (opc2 (a := u2) (b := v2) Tryd.call64 rfl rfl) (eqIntSSS_ok _ _ _ _ _ ((Mono.mono ((E1.trans E2).trans E3) h2)) ((Mono.mono ((E1.trans E2).trans E3) h4))) ?_; rintro _ w4 ⟨rfl, E4⟩; have hs4 := E4.size
    refine Wo rfl (opv_not rfl) ?_; refine Wo_nil ?_; refine W_cond_ndec rfl (fun h6 => ?_) (fun h6 => ?_); refine W_seq ?_; refine W_region rfl ?_; refine Wo rfl (opv_assign (v := .bool _) rfl) ?_; refine Wo_nil ?_; refine W_ret ?_
    refine at_ret (v := .bool _) rfl ?_; refine ⟨congrArg Value.bool ?_, (((E1.trans E2).trans E3).trans E4)⟩; rotate_left; refine W_skip ?_; refine W_seq ?_; refine W_region rfl ?_; refine Wo rfl (opv_assign (v := .bool _) rfl) ?_
    refine Wo_nil ?_; refine W_ret ?_; refine at_ret (v := .bool _) rfl ?_; refine ⟨congrArg Value.bool ?_, (((E1.trans E2).trans E3).trans E4)⟩; rotate_left
  all_goals first
    | exact (decide_eq_true (by simp_all)).symm
    | exact (decide_eq_false (by simp_all)).symm

theorem markDesk_ok (w : World) {lo m hi : Nat} (u1 u2 : Value) (p : List (List Int)) (q : List (List (List Int))) (h1 : OwnedB lo m XR w u1 p) (h2 : OwnedB m hi (XSl 49 XR) w u2 q) (hlm : lo ≤ m) (hmh : m ≤ hi) (hhi : hi ≤ w.heap.size) (k0 : Int) (hk0 : 0 ≤ k0 ∧ k0 ≤ 1048576) (hn : p.length ≤ 1048576) (ht : total p ≤ 1048576)
    (hq : q.length ≤ 1048576) (hqq : ∀ r ∈ q, r.length ≤ 1048576) (ht3 : total3 q ≤ 1048576) :
    Does Tryd.prog 39 [.agg #[u1, u2], .int .i64 k0] w (RetS lo hi w (Value.int .i64) (fun z w' => z = k0 + (total p : Nat) + (total3 q : Nat) ∧ OwnedB lo m XR w' u1 (marksS k0 p) ∧ OwnedB m hi (XSl 49 XR) w' u2 (marks3 (k0 + (total p : Nat)) q))) := by
  have k1 : ∀ (w : World), OwnedB lo m XR w u1 p → Does Tryd.prog 38 [u1, .int .i64 k0] w (RetSO lo m w (.int .i64 (k0 + total p)) XR u1 (marksS k0 p)) := fun w h => markIntSS_ok w u1 p h k0 hk0 hn (by omega)
  have k2 : ∀ (w : World), OwnedB m hi (XSl 49 XR) w u2 q → Does Tryd.prog 67 [u2, .int .i64 (k0 + total p)] w (RetSO m hi w (.int .i64 (k0 + total p + total3 q)) (XSl 49 XR) u2 (marks3 (k0 + total p) q)) := fun w h => markIntSSS_ok w u2 q h _ (by omega) hq hqq (by omega)
  refine fn_of_W1 Tryd.func39 rfl Tryd.results39 Tryd.ntmps39 rfl ?_
  focus
    refine W_seq ?_; refine W_region rfl ?_; refine Wo_box rfl rfl rfl ?_; rintro b1 w1 hb1 E1 hB1; have hlb1 := hB1.lt; have hs1 := E1.size; refine Wo rfl (opv_assign (v := .int _ _) rfl) ?_; refine Wo_nil ?_; refine W_seq ?_
    refine W_region rfl ?_; refine Wo rfl (opv_fieldAddr Tryd.underlying53 rfl rfl Tryd.sizeOf49 rfl) ?_; refine Wo (v := u1) rfl (opv_load Tryd.isAgg49 rfl (hB1.cell rfl)) ?_; refine Wo rfl (opv_move (v := .int _ _) rfl) ?_
    refine Wo_call rfl (opc2 (a := u1) (b := .int _ _) Tryd.call38 rfl rfl) (k1 _ ((h1.ext E1))) ?_; rintro _ w2 ⟨rfl, E2, hO1⟩; have h2 := (h2.ext E1).span E2 (by omega); have hB1 := hB1.span E2 (by omega); have hs2 := E2.size
    refine Wo rfl (opv_assign (v := .int _ _) rfl) ?_; refine Wo_nil ?_; refine W_seq ?_; refine W_region rfl ?_; refine Wo rfl (opv_fieldAddr Tryd.underlying53 rfl rfl Tryd.sizeOf51 rfl) ?_
    refine Wo (v := u2) rfl (opv_load Tryd.isAgg51 rfl (hB1.cell rfl)) ?_; refine Wo rfl (opv_move (v := .int _ _) rfl) ?_; refine Wo_call rfl (opc2 (a := u2) (b := .int _ _) Tryd.call67 rfl rfl) (k2 _ (h2)) ?_
    rintro _ w3 ⟨rfl, E3, hO2⟩; have hO1 := hO1.span E3 (by omega); have hB1 := hB1.span E3 (by omega); have hs3 := E3.size; refine Wo rfl (opv_assign (v := .int _ _) rfl) ?_; refine Wo_nil ?_; refine W_seq ?_; refine W_region rfl ?_
    refine Wo rfl (opv_move (v := .int _ _) rfl) ?_; refine Wo rfl (opv_assign (v := .int _ _) rfl) ?_; refine Wo_nil ?_; refine W_ret ?_; refine at_ret (v := .int _ _) rfl ?_
  exact ⟨_, rfl, (Span.of_only (Ext.only (fp := []) E1) (fun k hk => by cases hk)).trans ((E2.mono (Nat.le_refl _) hmh).trans (E3.mono hlm (Nat.le_refl _))), rfl, hO1, hO2⟩

theorem heldDesk_ok (w : World) (u1 u2 : Value) (p : List (List Int)) (q : List (List (List Int))) (k0 : Int) (h1 : ESl Ints w u1 (marksS k0 p)) (h2 : ESl (ESl Ints) w u2 (marks3 (k0 + (total p : Nat)) q)) (hk0 : 0 ≤ k0) (hn : p.length ≤ 1048576)
    (hq : q.length ≤ 1048576) (hqq : ∀ r ∈ q, r.length ≤ 1048576) (ht3 : k0 + (total p : Nat) + total3 q ≤ 1048576) :
    Does Tryd.prog 40 [.agg #[u1, u2], .int .i64 k0] w (Ret w (.int .i64 (k0 + (total p : Nat) + (total3 q : Nat)))) := by
  have k1 : ∀ (w : World), ESl Ints w u1 (marksS k0 p) → Does Tryd.prog 68 [u1, .int .i64 k0] w (Ret w (.int .i64 (k0 + total p))) := fun w h => heldIntSS_ok w u1 p k0 h (by omega) hn (by omega)
  have k2 : ∀ (w : World), ESl (ESl Ints) w u2 (marks3 (k0 + total p) q) → Does Tryd.prog 69 [u2, .int .i64 (k0 + total p)] w (Ret w (.int .i64 (k0 + total p + total3 q))) := fun w h => heldIntSSS_ok w u2 q _ h (by omega) hq hqq ht3
  refine fn_of_W1 Tryd.func40 rfl Tryd.results40 Tryd.ntmps40 rfl ?_
  focus
    refine W_seq ?_; refine W_region rfl ?_; refine Wo_box rfl rfl rfl ?_; rintro b1 w1 hb1 E1 hB1; have hlb1 := hB1.lt; have hs1 := E1.size; refine Wo rfl (opv_assign (v := .int _ _) rfl) ?_; refine Wo_nil ?_; refine W_seq ?_
    refine W_region rfl ?_; refine Wo rfl (opv_fieldAddr Tryd.underlying53 rfl rfl Tryd.sizeOf49 rfl) ?_; refine Wo (v := u1) rfl (opv_load Tryd.isAgg49 rfl (hB1.cell rfl)) ?_; refine Wo rfl (opv_move (v := .int _ _) rfl) ?_
    refine Wo_call rfl (opc2 (a := u1) (b := .int _ _) Tryd.call68 rfl rfl) (k1 _ ((Mono.mono E1 h1))) ?_; rintro _ w2 ⟨rfl, E2⟩; have hs2 := E2.size; refine Wo rfl (opv_assign (v := .int _ _) rfl) ?_; refine Wo_nil ?_; refine W_seq ?_
    refine W_seq ?_; refine W_region rfl ?_; refine Wo rfl (opv_move (v := .int _ _) rfl) ?_; refine Wo rfl (opv_lss rfl rfl) ?_; refine Wo_nil ?_; refine W_cond_dec rfl (fun h3 => ?_) (fun h3 => ?_); (exfalso; omega); refine W_skip ?_
    refine W_seq ?_; refine W_region rfl ?_; refine Wo rfl (opv_fieldAddr Tryd.underlying53 rfl rfl Tryd.sizeOf51 rfl) ?_; refine Wo (v := u2) rfl (opv_load Tryd.isAgg51 rfl ((hB1.ext E2).cell rfl)) ?_
    refine Wo rfl (opv_move (v := .int _ _) rfl) ?_; refine Wo_call rfl (opc2 (a := u2) (b := .int _ _) Tryd.call69 rfl rfl) (k2 _ ((Mono.mono (E1.trans E2) h2))) ?_; rintro _ w3 ⟨rfl, E3⟩; have hs3 := E3.size
    refine Wo rfl (opv_assign (v := .int _ _) rfl) ?_; refine Wo_nil ?_; refine W_seq ?_; refine W_seq ?_; refine W_region rfl ?_; refine Wo rfl (opv_move (v := .int _ _) rfl) ?_; refine Wo rfl (opv_lss rfl rfl) ?_; refine Wo_nil ?_
    refine W_cond_dec rfl (fun h4 => ?_) (fun h4 => ?_); (exfalso; omega); refine W_skip ?_; refine W_seq ?_; refine W_region rfl ?_; refine Wo rfl (opv_move (v := .int _ _) rfl) ?_; refine Wo rfl (opv_assign (v := .int _ _) rfl) ?_
    refine Wo_nil ?_; refine W_ret ?_; exact ⟨rfl, ((E1.trans E2).trans E3)⟩

end Go.Proofs.YtgphoihilheoeaaDoor
namespace Go.Proofs.YtgphoihilheoeaaDoor
open Go.Hs
set_option maxRecDepth 10000
set_option maxHeartbeats 4000000
set_option linter.unusedVariables false
set_option linter.unusedSimpArgs false

theorem flat53 : Flat Tryd.prog 53 [.slice none 0 0, .slice none 0 0] := ⟨_, Tryd.underlying53, fun _ => by kernel_rfl, fun _ => by kernel_rfl⟩
theorem spec_DeskNew_ok (w : World) (v : Value) (p : List (List Int)) (h : ESl Ints w v p) (z : Int) : Does Tryd.prog 33 [v, .int .i64 z] w (RetDkB w 49 80 3 (if Nod p z then lst p z.toNat else []) [] (decide (Nod p z))) := by
  refine fn_of_Wct Tryd.func33 rfl Tryd.results33 Tryd.ntmps33 rfl Tryd.isAgg53 Tryd.sizeOf53 ?_
  by_cases hz : Nod p z
  · have k1 : ∀ (w : World) (v : Value), ESl Ints w v p → Does Tryd.prog 59 [v, .int .i64 z] w (Ret w (.bool true)) := fun w v h => by
      have := NodeOk_ok w v p h z
      rw [decide_eq_true hz] at this; exact this
    have k2 : ∀ (w : World) (v : Value), ESl Ints w v p → Does Tryd.prog 60 [v, .int .i64 z] w (RetO w XR (lst p z.toNat)) := fun w v h => by
      have := LeastOf_ok w v p h z
      rw [if_pos hz] at this; exact this
    rw [if_pos hz, decide_eq_true hz]
    have litown : True := trivial
    focus
      refine W_seq ?_; refine W_region rfl ?_; refine Wo_alloc2 rfl flat53 ?_; rintro b1 w1 hb1 E1 hB1; have hlb1 := hB1.lt; have hs1 := E1.size; refine Wo rfl (opv_assign (v := .bool _) rfl) ?_; refine Wo_nil ?_; refine W_seq ?_
      refine W_seq ?_; refine W_region rfl ?_; refine Wo rfl (opv_move (v := v) rfl) ?_; refine Wo rfl (opv_move (v := .int _ _) rfl) ?_
      refine Wo_call rfl (opc2 (a := v) (b := .int _ _) Tryd.call59 rfl rfl) (k1 _ _ ((Mono.mono E1 h))) ?_; rintro _ w2 ⟨rfl, E2⟩; have hs2 := E2.size; refine Wo rfl (opv_not rfl) ?_; refine Wo_nil ?_
      refine W_cond rfl (fun h1 => ?_) (fun h1 => ?_); contradiction; refine W_skip ?_; refine W_seq ?_; refine W_region rfl ?_; refine Wo rfl (opv_move (v := v) rfl) ?_; refine Wo rfl (opv_move (v := .int _ _) rfl) ?_
      refine Wo_call rfl (opc2 (a := v) (b := .int _ _) Tryd.call60 rfl rfl) (k2 _ _ ((Mono.mono (E1.trans E2) h))) ?_; rintro u1 w3 ⟨E3, hO1⟩; have ichO1 := OwnedB.isC (Owned.toB hO1); have hs3 := E3.size
      refine Wo rfl (opv_buildF0 flat53 rfl (OwnedB.isC hO1.toB)) ?_; refine Wo_st2 rfl Tryd.sizeOf53 rfl rfl (by first | rfl | assumption) (by first | rfl | assumption) (hB1.ext (E2.trans E3)) (by omega) ((E1.trans E2).trans E3) ?_
      rintro w4 E4 hB1 K1 hz1; simp only [List.set] at hB1; have hO1 := hO1.toB.wrote K1 (by omega); refine Wo rfl (opv_assign (v := .bool _) rfl) ?_; refine Wo_nil ?_; refine W_ret ?_
    exact ⟨b1, u1, _, rfl, hB1, u1, _, w3.heap.size, rfl, E4, hO1.wide (by omega) (Nat.le_refl _), Owned.nil, by omega, by omega⟩
  · have k1 : ∀ (w : World) (v : Value), ESl Ints w v p → Does Tryd.prog 59 [v, .int .i64 z] w (Ret w (.bool false)) := fun w v h => by
      have := NodeOk_ok w v p h z
      rw [decide_eq_false hz] at this; exact this
    rw [if_neg hz, decide_eq_false hz]
    focus
      refine W_seq ?_; refine W_region rfl ?_; refine Wo_alloc2 rfl flat53 ?_; rintro b1 w1 hb1 E1 hB1; have hlb1 := hB1.lt; have hs1 := E1.size; refine Wo rfl (opv_assign (v := .bool _) rfl) ?_; refine Wo_nil ?_; refine W_seq ?_
      refine W_seq ?_; refine W_region rfl ?_; refine Wo rfl (opv_move (v := v) rfl) ?_; refine Wo rfl (opv_move (v := .int _ _) rfl) ?_
      refine Wo_call rfl (opc2 (a := v) (b := .int _ _) Tryd.call59 rfl rfl) (k1 _ _ ((Mono.mono E1 h))) ?_; rintro _ w2 ⟨rfl, E2⟩; have hs2 := E2.size; refine Wo rfl (opv_not rfl) ?_; refine Wo_nil ?_
      refine W_cond rfl (fun h1 => ?_) (fun h1 => ?_); refine W_seq ?_; refine W_region rfl ?_; refine Wo rfl (opv_build (ps := []) (cs := [_, _]) flat53 rfl rfl) ?_
      refine Wo_st2 rfl Tryd.sizeOf53 rfl rfl (by first | rfl | assumption) (by first | rfl | assumption) (hB1.ext E2) (by omega) (E1.trans E2) ?_; rintro w3 E3 hB1 K1 hz1; refine Wo rfl (opv_assign (v := .bool _) rfl) ?_
      refine Wo_nil ?_; refine W_ret ?_; rotate_left; contradiction
    exact ⟨b1, _, _, rfl, hB1, _, _, w.heap.size, rfl, E3, OwnedB.nil, Owned.nil, Nat.le_refl _, E3.size⟩

theorem impl_DeskNew_ok (w : World) (v : Value) (p : List (List Int)) (h : ESl Ints w v p) (z : Int) : Does Tryd.prog 35 [v, .int .i64 z] w (RetDkB w 49 80 3 (if Nod p z then lst p z.toNat else []) [] (decide (Nod p z))) := by
  refine fn_of_Wct Tryd.func35 rfl Tryd.results35 Tryd.ntmps35 rfl Tryd.isAgg53 Tryd.sizeOf53 ?_
  by_cases hz : Nod p z
  · obtain ⟨hp, hz0, hz1⟩ := id hz
    have k1 : ∀ (w : World) (v : Value), ESl Ints w v p → Does Tryd.prog 62 [v, .int .i64 z] w (Ret w (.bool true)) := fun w v h => by
      have := hasNode_ok w v p h z
      rw [decide_eq_true hz] at this; exact this
    have k2 : ∀ (w : World) (v : Value), ESl Ints w v p → Does Tryd.prog 63 [v, .int .i64 z] w (RetOB w XR (lst p z.toNat) true) := fun w v h => by
      have := leastOf_ok w v p h hp.gr z.toNat (by omega)
      have h5 : (lst p z.toNat).length ≤ 5 := Nat.le_trans (lst_le hp.gr (by omega)) hp.2.1
      rw [if_pos h5, decide_eq_true h5, Int.toNat_of_nonneg hz0] at this; exact this
    rw [if_pos hz, decide_eq_true hz]
    have litown : True := trivial
    focus
      refine W_seq ?_; refine W_region rfl ?_; refine Wo_alloc2 rfl flat53 ?_; rintro b1 w1 hb1 E1 hB1; have hlb1 := hB1.lt; have hs1 := E1.size; refine Wo rfl (opv_assign (v := .bool _) rfl) ?_; refine Wo_nil ?_; refine W_seq ?_
      refine W_seq ?_; refine W_region rfl ?_; refine Wo rfl (opv_move (v := v) rfl) ?_; refine Wo rfl (opv_move (v := .int _ _) rfl) ?_
      refine Wo_call rfl (opc2 (a := v) (b := .int _ _) Tryd.call62 rfl rfl) (k1 _ _ ((Mono.mono E1 h))) ?_; rintro _ w2 ⟨rfl, E2⟩; have hs2 := E2.size; refine Wo rfl (opv_not rfl) ?_; refine Wo_nil ?_
      refine W_cond rfl (fun h1 => ?_) (fun h1 => ?_); contradiction; refine W_skip ?_; refine W_seq ?_; refine W_region rfl ?_; refine Wo rfl (opv_move (v := v) rfl) ?_; refine Wo rfl (opv_move (v := .int _ _) rfl) ?_
      refine Wo_call rfl (opc2 (a := v) (b := .int _ _) Tryd.call63 rfl rfl) (k2 _ _ ((Mono.mono (E1.trans E2) h))) ?_; rintro _ w3 ⟨u1, rfl, E3, hO1⟩; have ichO1 := OwnedB.isC (Owned.toB hO1); have hs3 := E3.size
      refine Wo rfl (opv_move (v := .tuple _) rfl) ?_; refine Wo rfl (opv_extract (v := u1) rfl rfl) ?_; refine Wo rfl (opv_extract (v := .bool _) rfl rfl) ?_; refine Wo rfl (opv_assign (v := u1) rfl) ?_
      refine Wo rfl (opv_assign (v := .bool _) rfl) ?_; refine Wo_nil ?_; refine W_seq ?_; refine W_region rfl ?_; refine Wo rfl (opv_move (v := u1) rfl) ?_; refine Wo rfl (opv_buildF0 flat53 rfl (OwnedB.isC hO1.toB)) ?_
      refine Wo_st2 rfl Tryd.sizeOf53 rfl rfl (by first | rfl | assumption) (by first | rfl | assumption) (hB1.ext (E2.trans E3)) (by omega) ((E1.trans E2).trans E3) ?_; rintro w4 E4 hB1 K1 hz2; simp only [List.set] at hB1
      have hO1 := hO1.toB.wrote K1 (by omega); refine Wo rfl (opv_assign (v := .bool _) rfl) ?_; refine Wo_nil ?_; refine W_ret ?_
    exact ⟨b1, u1, _, rfl, hB1, u1, _, w3.heap.size, rfl, E4, hO1.wide (by omega) (Nat.le_refl _), Owned.nil, by omega, by omega⟩
  · have k1 : ∀ (w : World) (v : Value), ESl Ints w v p → Does Tryd.prog 62 [v, .int .i64 z] w (Ret w (.bool false)) := fun w v h => by
      have := hasNode_ok w v p h z
      rw [decide_eq_false hz] at this; exact this
    rw [if_neg hz, decide_eq_false hz]
    focus
      refine W_seq ?_; refine W_region rfl ?_; refine Wo_alloc2 rfl flat53 ?_; rintro b1 w1 hb1 E1 hB1; have hlb1 := hB1.lt; have hs1 := E1.size; refine Wo rfl (opv_assign (v := .bool _) rfl) ?_; refine Wo_nil ?_; refine W_seq ?_
      refine W_seq ?_; refine W_region rfl ?_; refine Wo rfl (opv_move (v := v) rfl) ?_; refine Wo rfl (opv_move (v := .int _ _) rfl) ?_
      refine Wo_call rfl (opc2 (a := v) (b := .int _ _) Tryd.call62 rfl rfl) (k1 _ _ ((Mono.mono E1 h))) ?_; rintro _ w2 ⟨rfl, E2⟩; have hs2 := E2.size; refine Wo rfl (opv_not rfl) ?_; refine Wo_nil ?_
      refine W_cond rfl (fun h1 => ?_) (fun h1 => ?_); refine W_seq ?_; refine W_region rfl ?_; refine Wo rfl (opv_build (ps := []) (cs := [_, _]) flat53 rfl rfl) ?_
      refine Wo_st2 rfl Tryd.sizeOf53 rfl rfl (by first | rfl | assumption) (by first | rfl | assumption) (hB1.ext E2) (by omega) (E1.trans E2) ?_; rintro w3 E3 hB1 K1 hz1; refine Wo rfl (opv_assign (v := .bool _) rfl) ?_
      refine Wo_nil ?_; refine W_ret ?_; rotate_left; contradiction
    exact ⟨b1, _, _, rfl, hB1, _, _, w.heap.size, rfl, E3, OwnedB.nil, Owned.nil, Nat.le_refl _, E3.size⟩

theorem FnExactDeskNew_walk (w : World) (v : Value) (p : List (List Int)) (h : ESl Ints w v p) (z : Int) (hz : -9223372036854775808 ≤ z ∧ z ≤ 9223372036854775807) :
    Does Tryd.prog 10 [v, .int .i64 z] w (Ret w (.bool true)) := by
  refine fn_of_W1 Tryd.func10 rfl Tryd.results10 Tryd.ntmps10 rfl ?_
  obtain ⟨c, hc⟩ : ∃ c, c = if Nod p z then lst p z.toNat else [] := ⟨_, rfl⟩
  obtain ⟨b, hb⟩ : ∃ b, b = decide (Nod p z) := ⟨_, rfl⟩
  have hcl : c.length ≤ 5 ∧ total c ≤ 25 := by
    rw [hc]; split
    · rename_i h
      have h1 := lst_pic h.1 (a := z.toNat) (by have := h.2; omega)
      exact ⟨h1.2.1, pic_total h1⟩
    · exact ⟨by simp, by simp [total]⟩
  have k1 : ∀ (w : World) (v : Value), ESl Ints w v p → Does Tryd.prog 33 [v, .int .i64 z] w (RetDkB w 49 80 3 c [] b) := fun w v h => by rw [hc, hb]; exact spec_DeskNew_ok w v p h z
  have k2 : ∀ (w : World) (v : Value), ESl Ints w v p → Does Tryd.prog 35 [v, .int .i64 z] w (RetDkB w 49 80 3 c [] b) := fun w v h => by rw [hc, hb]; exact impl_DeskNew_ok w v p h z
  clear hc hb
  obtain ⟨hc5, hct⟩ := hcl
  focus
    refine W_seq ?_; refine W_region rfl ?_; refine Wo rfl (opv_assign (v := .bool _) rfl) ?_; refine Wo_nil ?_; refine W_seq ?_; refine W_region rfl ?_; refine Wo rfl (opv_assign (v := .int _ _) rfl) ?_; refine Wo_nil ?_
    refine W_seq ?_; refine W_region rfl ?_; refine Wo rfl (opv_move (v := v) rfl) ?_; refine Wo rfl (opv_move (v := .int _ _) rfl) ?_
    refine Wo_call rfl (opc2 (a := v) (b := .int _ _) Tryd.call32 rfl rfl) (szIntSS_ok _ _ _ (h) _ (by omega)) ?_; rintro _ w1 ⟨E1, y1, rfl, hy1⟩; have hs1 := E1.size; refine Wo rfl (opv_assign (v := .int _ _) rfl) ?_; refine Wo_nil ?_
    refine W_seq ?_; refine W_seq ?_; refine W_region rfl ?_; refine Wo rfl (opv_move (v := .int _ _) rfl) ?_; refine Wo rfl (opv_lss rfl rfl) ?_; refine Wo_nil ?_; refine W_cond_dec rfl (fun h1 => ?_) (fun h1 => ?_); refine W_seq ?_
    refine W_region rfl ?_; refine Wo rfl (opv_assign (v := .bool _) rfl) ?_; refine Wo_nil ?_; refine W_ret ?_; exact ⟨rfl, E1⟩; refine W_skip ?_; refine W_seq ?_; refine W_region rfl ?_; refine Wo rfl (opv_move (v := v) rfl) ?_
  rcases hy1 with h9 | ⟨h5, h6, h7, h8, h9⟩
  · omega
  have k3 : ∀ (w : World) (v : Value), ESl Ints w v p → Does Tryd.prog 34 [v] w (RetO w XR p) := fun w v h => toIntSS_ok w v p h h7 h9
  have k4 : ∀ (w : World) (u1 u2 v1 v2 : Value), ESl Ints w u1 c → ESl (ESl Ints) w u2 [] → ESl Ints w v1 c → ESl (ESl Ints) w v2 [] → Does Tryd.prog 36 [.agg #[u1, u2], .agg #[v1, v2]] w (Ret w (.bool true)) := fun w u1 u2 v1 v2 h1 h2 h3 h4 => by
    have := eqDesk_ok w u1 u2 v1 v2 c c [] [] h1 h2 h3 h4
    rwa [decide_eq_true ⟨rfl, rfl⟩] at this
  have k5 : ∀ (w : World) (v u : Value), ESl Ints w v p → ESl Ints w u p → Does Tryd.prog 37 [v, u] w (Ret w (.bool true)) := fun w v u h h' => by
    have := eqIntSS_ok w v u p p h h'
    rwa [decide_eq_true rfl] at this
  have k6 : ∀ (w : World) (lo hi : Nat) (v : Value), OwnedB lo hi XR w v p → Does Tryd.prog 38 [v, .int .i64 1] w (RetSO lo hi w (.int .i64 (1 + total p)) XR v (marksS 1 p)) := fun w lo hi v h => markIntSS_ok w v p h 1 (by decide) h7 (by omega)
  have k7 : ∀ (w : World) (lo m hi : Nat) (u1 u2 : Value), OwnedB lo m XR w u1 c → OwnedB m hi (XSl 49 XR) w u2 [] → lo ≤ m → m ≤ hi → hi ≤ w.heap.size → Does Tryd.prog 39 [.agg #[u1, u2], .int .i64 1] w (RetS lo hi w (Value.int .i64) (fun z w' => z = 1 + (total c : Nat) ∧ OwnedB lo m XR w' u1 (marksS 1 c) ∧ OwnedB m hi (XSl 49 XR) w' u2 [])) := fun w lo m hi u1 u2 h1 h2 h3 h4 h5 => by
    have := markDesk_ok w u1 u2 c [] h1 h2 h3 h4 h5 1 (by decide) (by omega) (by omega) (by simp) (by simp) (by simp [total3])
    simpa [total3, marks3] using this
  have k8 : ∀ (w : World) (u1 u2 : Value), ESl Ints w u1 (marksS 1 c) → ESl (ESl Ints) w u2 [] → Does Tryd.prog 40 [.agg #[u1, u2], .int .i64 1] w (Ret w (.int .i64 (1 + (total c : Nat)))) := fun w u1 u2 h1 h2 => by
    have := heldDesk_ok w u1 u2 c [] 1 h1 (by simpa [marks3] using h2) (by decide) (by omega) (by simp) (by simp) (by simp [total3]; omega)
    simpa [total3] using this
  have litown : True := trivial
  have stop18 : True := trivial
  cases b
  · focus
      have szE1 := E1.size; refine Wo_call rfl (opc1 (a := v) Tryd.call34 rfl) (k3 _ _ ((Mono.mono E1 h))) ?_; rintro u1 w2 ⟨E2, hO1⟩; have ichO1 := OwnedB.isC (Owned.toB hO1); have hs2 := E2.size
      refine Wo rfl (opv_move (v := .int _ _) rfl) ?_; refine Wo_call rfl (opc2 (a := u1) (b := .int _ _) Tryd.call33 rfl rfl) (k1 _ _ ((Owned.read hO1))) ?_; rintro _ w3 ⟨u2, q1, m1, rfl, E3, hO2, hQ1, hm1, hn1⟩
      have icu2 := OwnedB.isC hO2; have cpu2 := OwnedB.capOk hO2; have icq1 := OwnedB.isC (Owned.toB hQ1); have cpq1 := OwnedB.capOk (Owned.toB hQ1); have hs3 := E3.size; refine Wo rfl (opv_move (v := .tuple _) rfl) ?_
      refine Wo rfl (opv_extract (v := .agg _) rfl rfl) ?_; refine Wo rfl (opv_extract (v := .bool _) rfl rfl) ?_; refine Wo_alloc2 rfl flat53 ?_; rintro b1 w4 hb1 E4 hB1; have hlb1 := hB1.lt; have hs4 := E4.size
      refine Wo_st2 rfl Tryd.sizeOf53 rfl rfl (by first | rfl | assumption) (by first | rfl | assumption) hB1 (by omega) (((E1.trans E2).trans E3).trans E4) ?_; rintro w5 E5 hB1 K1 hz1
      have E6 := ((E2.trans E3).trans E4).wroteAt (((E1.trans E2).trans E3).trans E4) E5 K1 hz1 (by omega); have szE6 := E6.size; have E7 := (E3.trans E4).wroteAt (((E1.trans E2).trans E3).trans E4) E5 K1 hz1 (by omega)
      have szE7 := E7.size; have E8 := E4.wroteAt (((E1.trans E2).trans E3).trans E4) E5 K1 hz1 (by omega); have szE8 := E8.size; have hO1 := (hO1.toB.ext (E3.trans E4)).wrote K1 (by omega); have hO2 := (hO2.ext E4).wrote K1 (by omega)
      have hQ1 := (hQ1.toB.ext E4).wrote K1 (by omega); refine Wo rfl (opv_assign (v := .bool _) rfl) ?_; refine Wo_nil ?_; refine W_seq ?_; refine W_region rfl ?_; refine Wo rfl (opv_move (v := v) rfl) ?_
      refine Wo_call rfl (opc1 (a := v) Tryd.call34 rfl) (k3 _ _ ((Mono.mono E5 h))) ?_; rintro u3 w6 ⟨E9, hO3⟩; have ichO3 := OwnedB.isC (Owned.toB hO3); have hs5 := E9.size; refine Wo rfl (opv_assign (v := u3) rfl) ?_; refine Wo_nil ?_
      refine W_seq ?_; refine W_region rfl ?_; refine Wo rfl (opv_move (v := u3) rfl) ?_; refine Wo rfl (opv_move (v := .int _ _) rfl) ?_
      refine Wo_call rfl (opc2 (a := u3) (b := .int _ _) Tryd.call35 rfl rfl) (k2 _ _ ((Owned.read hO3))) ?_; rintro _ w7 ⟨u4, q2, m2, rfl, E10, hO4, hQ2, hm2, hn2⟩; have icu4 := OwnedB.isC hO4; have cpu4 := OwnedB.capOk hO4
      have icq2 := OwnedB.isC (Owned.toB hQ2); have cpq2 := OwnedB.capOk (Owned.toB hQ2); have hs6 := E10.size; refine Wo rfl (opv_move (v := .tuple _) rfl) ?_; refine Wo rfl (opv_extract (v := .agg _) rfl rfl) ?_
      refine Wo rfl (opv_extract (v := .bool _) rfl rfl) ?_; refine Wo_alloc2 rfl flat53 ?_; rintro b2 w8 hb2 E11 hB2; have hlb2 := hB2.lt; have hs7 := E11.size
      refine Wo_st2 rfl Tryd.sizeOf53 rfl rfl (by first | rfl | assumption) (by first | rfl | assumption) hB2 (by omega) (((E5.trans E9).trans E10).trans E11) ?_; rintro w9 E12 hB2 K2 hz2
      have E13 := (((E6.trans E9).trans E10).trans E11).wroteAt (((E5.trans E9).trans E10).trans E11) E12 K2 hz2 (by omega); have szE13 := E13.size
      have E14 := (((E7.trans E9).trans E10).trans E11).wroteAt (((E5.trans E9).trans E10).trans E11) E12 K2 hz2 (by omega); have szE14 := E14.size
      have E15 := (((E8.trans E9).trans E10).trans E11).wroteAt (((E5.trans E9).trans E10).trans E11) E12 K2 hz2 (by omega); have szE15 := E15.size
      have E16 := ((E9.trans E10).trans E11).wroteAt (((E5.trans E9).trans E10).trans E11) E12 K2 hz2 (by omega); have szE16 := E16.size; have E17 := (E10.trans E11).wroteAt (((E5.trans E9).trans E10).trans E11) E12 K2 hz2 (by omega)
      have szE17 := E17.size; have E18 := E11.wroteAt (((E5.trans E9).trans E10).trans E11) E12 K2 hz2 (by omega); have szE18 := E18.size; have hB1 := (hB1.ext ((E9.trans E10).trans E11)).of_heap (K2 _ (by omega))
      have hO1 := (hO1.ext ((E9.trans E10).trans E11)).wrote K2 (by omega); have hO2 := (hO2.ext ((E9.trans E10).trans E11)).wrote K2 (by omega); have hQ1 := (hQ1.ext ((E9.trans E10).trans E11)).wrote K2 (by omega)
      have hO3 := (hO3.toB.ext (E10.trans E11)).wrote K2 (by omega); have hO4 := (hO4.ext E11).wrote K2 (by omega); have hQ2 := (hQ2.toB.ext E11).wrote K2 (by omega); refine Wo rfl (opv_assign (v := .bool _) rfl) ?_; refine Wo_nil ?_
      refine W_seq ?_; refine W_seq ?_; refine W_region rfl ?_; refine Wo (v := .agg _) rfl (opv_load2 Tryd.isAgg53 Tryd.sizeOf53 rfl hB2) ?_; refine Wo (v := .agg _) rfl (opv_load2 Tryd.isAgg53 Tryd.sizeOf53 rfl hB1) ?_
      refine Wo_call rfl (opc2 (a := .agg _) (b := .agg _) Tryd.call36 rfl rfl) (k4 _ _ _ _ _ ((OwnedB.read hO4)) ((OwnedB.read hQ2)) ((OwnedB.read hO2)) ((OwnedB.read hQ1))) ?_; rintro _ w10 ⟨rfl, E19⟩; have hs8 := E19.size
      refine Wo rfl (opv_not rfl) ?_; refine Wo_split rfl (opv_move (v := .bool _) rfl) (fun h2 => ?_) (fun h2 => ?_); contradiction; refine Wo rfl (opv_move (v := .bool _) rfl) ?_; refine Wo rfl (opv_move (v := .bool _) rfl) ?_
      refine Wo rfl (opv_neq_bool Tryd.underlying4 rfl rfl) ?_; refine Wo rfl (opv_pick_f (v := .bool _) rfl rfl) ?_; refine Wo_nil ?_; refine W_cond_ndec rfl (fun h3 => ?_) (fun h3 => ?_); contradiction; refine W_skip ?_; refine W_seq ?_
      refine W_seq ?_; refine W_region rfl ?_; refine Wo rfl (opv_move (v := u3) rfl) ?_; refine Wo rfl (opv_move (v := v) rfl) ?_; refine Wo_call rfl (opc1 (a := v) Tryd.call34 rfl) (k3 _ _ ((Mono.mono (E12.trans E19) h))) ?_
      rintro u5 w11 ⟨E20, hO5⟩; have ichO5 := OwnedB.isC (Owned.toB hO5); have hs9 := E20.size
      refine Wo_call rfl (opc2 (a := u3) (b := u5) Tryd.call37 rfl rfl) (k5 _ _ _ ((Mono.mono (E19.trans E20) (OwnedB.read hO3))) ((Owned.read hO5))) ?_; rintro _ w12 ⟨rfl, E21⟩; have hs10 := E21.size; refine Wo rfl (opv_not rfl) ?_
      refine Wo_nil ?_; refine W_cond rfl (fun h4 => ?_) (fun h4 => ?_); contradiction; refine W_skip ?_; refine W_seq ?_; refine W_region rfl ?_; refine Wo rfl (opv_assign (v := .int _ _) rfl) ?_; refine Wo_nil ?_; refine W_seq ?_
      refine W_region rfl ?_; refine Wo rfl (opv_move (v := u3) rfl) ?_; refine Wo rfl (opv_move (v := .int _ _) rfl) ?_
      refine Wo_call rfl (opc2 (a := u3) (b := .int _ _) Tryd.call38 rfl rfl) (k6 _ _ _ _ ((hO3.ext ((E19.trans E20).trans E21)))) ?_; rintro _ w13 ⟨rfl, E22, hO6⟩; have hB2 := (hB2.ext ((E19.trans E20).trans E21)).span E22 (by omega)
      have hB1 := (hB1.ext ((E19.trans E20).trans E21)).span E22 (by omega); have hO1 := (hO1.ext ((E19.trans E20).trans E21)).span E22 (by omega); have hO2 := (hO2.ext ((E19.trans E20).trans E21)).span E22 (by omega)
      have hQ1 := (hQ1.ext ((E19.trans E20).trans E21)).span E22 (by omega); have hO4 := (hO4.ext ((E19.trans E20).trans E21)).span E22 (by omega); have hQ2 := (hQ2.ext ((E19.trans E20).trans E21)).span E22 (by omega)
      have hO5 := (hO5.toB.ext E21).span E22 (by omega); have E23 := (((E12.trans E19).trans E20).trans E21).span E22 (by omega); have E24 := ((((E13.trans E19).trans E20).trans E21)).span E22 (by omega); have szE24 := E24.size
      have E25 := ((((E14.trans E19).trans E20).trans E21)).span E22 (by omega); have szE25 := E25.size; have E26 := ((((E15.trans E19).trans E20).trans E21)).span E22 (by omega); have szE26 := E26.size
      have E27 := ((((E16.trans E19).trans E20).trans E21)).span E22 (by omega); have szE27 := E27.size; have hs11 := E22.size; refine Wo rfl (opv_assign (v := .int _ _) rfl) ?_; refine Wo_nil ?_; refine W_seq ?_; refine W_seq ?_
      refine W_region rfl ?_; refine Wo rfl (opv_move (v := .int _ _) rfl) ?_; refine Wo rfl (opv_lss rfl rfl) ?_; refine Wo_split_dec rfl (opv_move (v := .bool _) rfl) (fun h10 => ?_) (fun h10 => ?_); contradiction
      refine Wo (v := .agg _) rfl (opv_load2 Tryd.isAgg53 Tryd.sizeOf53 rfl hB2) ?_; refine Wo (v := .agg _) rfl (opv_load2 Tryd.isAgg53 Tryd.sizeOf53 rfl hB1) ?_
      refine Wo_call rfl (opc2 (a := .agg _) (b := .agg _) Tryd.call36 rfl rfl) (k4 _ _ _ _ _ ((OwnedB.read hO4)) ((OwnedB.read hQ2)) ((OwnedB.read hO2)) ((OwnedB.read hQ1))) ?_; rintro _ w14 ⟨rfl, E28⟩; have hs12 := E28.size
      refine Wo rfl (opv_not rfl) ?_; refine Wo rfl (opv_pick_f (v := .bool _) rfl rfl) ?_; refine Wo_split rfl (opv_move (v := .bool _) rfl) (fun h11 => ?_) (fun h11 => ?_); contradiction; refine Wo rfl (opv_move (v := .bool _) rfl) ?_
      refine Wo rfl (opv_move (v := .bool _) rfl) ?_; refine Wo rfl (opv_neq_bool Tryd.underlying4 rfl rfl) ?_; refine Wo rfl (opv_pick_f (v := .bool _) rfl rfl) ?_; refine Wo_nil ?_; refine W_cond_ndec rfl (fun h12 => ?_) (fun h12 => ?_)
      contradiction; refine W_skip ?_; refine W_seq ?_; refine W_region rfl ?_; refine Wo rfl (opv_assign (v := .int _ _) rfl) ?_; refine Wo_nil ?_; refine W_seq ?_; refine W_region rfl ?_
      refine Wo (v := .agg _) rfl (opv_load2 Tryd.isAgg53 Tryd.sizeOf53 rfl (hB2.ext E28)) ?_; refine Wo rfl (opv_move (v := .int _ _) rfl) ?_
      refine Wo_call rfl (opc2 (a := .agg _) (b := .int _ _) Tryd.call39 rfl rfl) (k7 _ _ _ _ _ _ ((hO4.ext E28)) ((hQ2.ext E28)) (by assumption) (by assumption) (by omega)) ?_; rintro _ w15 ⟨y2, rfl, E29, hy1⟩
      have hO6 := (hO6.ext E28).span E29 (by omega); have hB2 := (hB2.ext E28).span E29 (by omega); have hB1 := (hB1.ext E28).span E29 (by omega); have hO1 := (hO1.ext E28).span E29 (by omega)
      have hO2 := (hO2.ext E28).span E29 (by omega); have hQ1 := (hQ1.ext E28).span E29 (by omega); have hO5 := (hO5.ext E28).span E29 (by omega); have E30 := (E23.trans E28).span E29 (by omega)
      have E31 := ((E24.trans E28)).span E29 (by omega); have szE31 := E31.size; have E32 := ((E25.trans E28)).span E29 (by omega); have szE32 := E32.size; have E33 := ((E26.trans E28)).span E29 (by omega); have szE33 := E33.size
      have E34 := ((E27.trans E28)).span E29 (by omega); have szE34 := E34.size; have hs13 := E29.size; refine Wo rfl (opv_assign (v := .int _ _) rfl) ?_; refine Wo_nil ?_; refine W_seq ?_
    clear stop18
    obtain ⟨rfl, hOx, hQx⟩ := hy1
    focus
      have szE34 := E34.size; have szE33 := E33.size; have szE32 := E32.size; have szE31 := E31.size; have szE30 := E30.size; have szE28 := E28.size; have szE27 := E27.size; have szE26 := E26.size; have szE25 := E25.size
      have szE24 := E24.size; have szE23 := E23.size; have szE21 := E21.size; have szE20 := E20.size; have szE19 := E19.size; have szE18 := E18.size; have szE17 := E17.size; have szE16 := E16.size; have szE15 := E15.size
      have szE14 := E14.size; have szE13 := E13.size; have szE12 := E12.size; have szE11 := E11.size; have szE10 := E10.size; have szE9 := E9.size; have szE8 := E8.size; have szE7 := E7.size; have szE6 := E6.size; have szE5 := E5.size
      have szE4 := E4.size; have szE3 := E3.size; have szE2 := E2.size; have szE1 := E1.size; refine W_region rfl ?_; refine Wo rfl (opv_assign (v := .int _ _) rfl) ?_; refine Wo_nil ?_; refine W_seq ?_; refine W_region rfl ?_
      refine Wo (v := .agg _) rfl (opv_load2 Tryd.isAgg53 Tryd.sizeOf53 rfl hB2) ?_; refine Wo rfl (opv_move (v := .int _ _) rfl) ?_
      refine Wo_call rfl (opc2 (a := .agg _) (b := .int _ _) Tryd.call40 rfl rfl) (k8 _ _ _ ((OwnedB.read hOx)) ((OwnedB.read hQx))) ?_; rintro _ w16 ⟨rfl, E35⟩; have hs14 := E35.size; refine Wo rfl (opv_assign (v := .int _ _) rfl) ?_
      refine Wo_nil ?_; refine W_seq ?_; refine W_seq ?_; refine W_region rfl ?_; refine Wo rfl (opv_move (v := .int _ _) rfl) ?_; refine Wo rfl (opv_lss rfl rfl) ?_; refine Wo_nil ?_; refine W_cond_dec rfl (fun h13 => ?_) (fun h13 => ?_)
      contradiction; refine W_skip ?_; refine W_seq ?_; refine W_seq ?_; refine W_region rfl ?_; refine Wo rfl (opv_move (v := .int _ _) rfl) ?_; refine Wo rfl (opv_move (v := .int _ _) rfl) ?_; refine Wo rfl (opv_neq rfl rfl) ?_
      refine Wo_nil ?_; refine W_cond_ndec rfl (fun h14 => ?_) (fun h14 => ?_); contradiction; refine W_skip ?_; refine W_seq ?_; refine W_region rfl ?_; refine Wo rfl (opv_move (v := v) rfl) ?_
      refine Wo_call rfl (opc1 (a := v) Tryd.call34 rfl) (k3 _ _ ((Mono.mono (E30.trans E35) h))) ?_; rintro u6 w17 ⟨E36, hO7⟩; have ichO7 := OwnedB.isC (Owned.toB hO7); have hs15 := E36.size
      refine Wo rfl (opv_move (v := .int _ _) rfl) ?_; refine Wo_call rfl (opc2 (a := u6) (b := .int _ _) Tryd.call35 rfl rfl) (k2 _ _ ((Owned.read hO7))) ?_; rintro _ w18 ⟨u7, q3, m3, rfl, E37, hO8, hQ3, hm3, hn3⟩
      have icu7 := OwnedB.isC hO8; have cpu7 := OwnedB.capOk hO8; have icq3 := OwnedB.isC (Owned.toB hQ3); have cpq3 := OwnedB.capOk (Owned.toB hQ3); have hs16 := E37.size; refine Wo rfl (opv_move (v := .tuple _) rfl) ?_
      refine Wo rfl (opv_extract (v := .agg _) rfl rfl) ?_; refine Wo rfl (opv_extract (v := .bool _) rfl rfl) ?_; refine Wo_alloc2 rfl flat53 ?_; rintro b3 w19 hb3 E38 hB3; have hlb3 := hB3.lt; have hs17 := E38.size
      refine Wo_st2 rfl Tryd.sizeOf53 rfl rfl (by first | rfl | assumption) (by first | rfl | assumption) hB3 (by omega) ((((E30.trans E35).trans E36).trans E37).trans E38) ?_; rintro w20 E39 hB3 K3 hz3
      have E40 := ((((E31.trans E35).trans E36).trans E37).trans E38).wroteAt ((((E30.trans E35).trans E36).trans E37).trans E38) E39 K3 hz3 (by omega); have szE40 := E40.size
      have E41 := ((((E32.trans E35).trans E36).trans E37).trans E38).wroteAt ((((E30.trans E35).trans E36).trans E37).trans E38) E39 K3 hz3 (by omega); have szE41 := E41.size
      have E42 := ((((E33.trans E35).trans E36).trans E37).trans E38).wroteAt ((((E30.trans E35).trans E36).trans E37).trans E38) E39 K3 hz3 (by omega); have szE42 := E42.size
      have E43 := ((((E34.trans E35).trans E36).trans E37).trans E38).wroteAt ((((E30.trans E35).trans E36).trans E37).trans E38) E39 K3 hz3 (by omega); have szE43 := E43.size
      have E44 := (((E35.trans E36).trans E37).trans E38).wroteAt ((((E30.trans E35).trans E36).trans E37).trans E38) E39 K3 hz3 (by omega); have szE44 := E44.size
      have E45 := ((E36.trans E37).trans E38).wroteAt ((((E30.trans E35).trans E36).trans E37).trans E38) E39 K3 hz3 (by omega); have szE45 := E45.size
      have E46 := (E37.trans E38).wroteAt ((((E30.trans E35).trans E36).trans E37).trans E38) E39 K3 hz3 (by omega); have szE46 := E46.size; have E47 := E38.wroteAt ((((E30.trans E35).trans E36).trans E37).trans E38) E39 K3 hz3 (by omega)
      have szE47 := E47.size; have hO6 := (hO6.ext (((E35.trans E36).trans E37).trans E38)).wrote K3 (by omega); have hB2 := (hB2.ext (((E35.trans E36).trans E37).trans E38)).of_heap (K3 _ (by omega))
      have hB1 := (hB1.ext (((E35.trans E36).trans E37).trans E38)).of_heap (K3 _ (by omega)); have hO1 := (hO1.ext (((E35.trans E36).trans E37).trans E38)).wrote K3 (by omega)
      have hO2 := (hO2.ext (((E35.trans E36).trans E37).trans E38)).wrote K3 (by omega); have hQ1 := (hQ1.ext (((E35.trans E36).trans E37).trans E38)).wrote K3 (by omega)
      have hO5 := (hO5.ext (((E35.trans E36).trans E37).trans E38)).wrote K3 (by omega); have hOx := (hOx.ext (((E35.trans E36).trans E37).trans E38)).wrote K3 (by omega)
      have hQx := (hQx.ext (((E35.trans E36).trans E37).trans E38)).wrote K3 (by omega); have hO7 := (hO7.toB.ext (E37.trans E38)).wrote K3 (by omega); have hO8 := (hO8.ext E38).wrote K3 (by omega)
      have hQ3 := (hQ3.toB.ext E38).wrote K3 (by omega); refine Wo rfl (opv_assign (v := .bool _) rfl) ?_; refine Wo_nil ?_; refine W_seq ?_; refine W_seq ?_; refine W_region rfl ?_
      refine Wo (v := .agg _) rfl (opv_load2 Tryd.isAgg53 Tryd.sizeOf53 rfl hB3) ?_; refine Wo (v := .agg _) rfl (opv_load2 Tryd.isAgg53 Tryd.sizeOf53 rfl hB1) ?_
      refine Wo_call rfl (opc2 (a := .agg _) (b := .agg _) Tryd.call36 rfl rfl) (k4 _ _ _ _ _ ((OwnedB.read hO8)) ((OwnedB.read hQ3)) ((OwnedB.read hO2)) ((OwnedB.read hQ1))) ?_; rintro _ w21 ⟨rfl, E48⟩; have hs18 := E48.size
      refine Wo rfl (opv_not rfl) ?_; refine Wo_split rfl (opv_move (v := .bool _) rfl) (fun h15 => ?_) (fun h15 => ?_); contradiction; refine Wo rfl (opv_move (v := .bool _) rfl) ?_; refine Wo rfl (opv_move (v := .bool _) rfl) ?_
      refine Wo rfl (opv_neq_bool Tryd.underlying4 rfl rfl) ?_; refine Wo rfl (opv_pick_f (v := .bool _) rfl rfl) ?_; refine Wo_nil ?_; refine W_cond_ndec rfl (fun h16 => ?_) (fun h16 => ?_); contradiction; refine W_skip ?_
      refine W_seq ?_; refine W_region rfl ?_; refine Wo rfl (opv_assign (v := .int _ _) rfl) ?_; refine Wo_nil ?_; refine W_seq ?_; refine W_region rfl ?_
      refine Wo (v := .agg _) rfl (opv_load2 Tryd.isAgg53 Tryd.sizeOf53 rfl (hB2.ext E48)) ?_; refine Wo rfl (opv_move (v := .int _ _) rfl) ?_
      refine Wo_call rfl (opc2 (a := .agg _) (b := .int _ _) Tryd.call40 rfl rfl) (k8 _ _ _ ((Mono.mono E48 (OwnedB.read hOx))) ((Mono.mono E48 (OwnedB.read hQx)))) ?_; rintro _ w22 ⟨rfl, E49⟩; have hs19 := E49.size
      refine Wo rfl (opv_assign (v := .int _ _) rfl) ?_; refine Wo_nil ?_; refine W_seq ?_; refine W_seq ?_; refine W_region rfl ?_; refine Wo rfl (opv_move (v := .int _ _) rfl) ?_; refine Wo rfl (opv_lss rfl rfl) ?_; refine Wo_nil ?_
      refine W_cond_dec rfl (fun h17 => ?_) (fun h17 => ?_); contradiction; refine W_skip ?_; refine W_seq ?_; refine W_seq ?_; refine W_region rfl ?_; refine Wo rfl (opv_move (v := .int _ _) rfl) ?_
      refine Wo rfl (opv_move (v := .int _ _) rfl) ?_; refine Wo rfl (opv_neq rfl rfl) ?_; refine Wo_nil ?_; refine W_cond_ndec rfl (fun h18 => ?_) (fun h18 => ?_); contradiction; refine W_skip ?_; refine W_seq ?_; refine W_region rfl ?_
      refine Wo rfl (opv_assign (v := .bool _) rfl) ?_; refine Wo_nil ?_; refine W_ret ?_; exact ⟨rfl, ((E39.trans E48).trans E49)⟩
  · focus
      have szE1 := E1.size; refine Wo_call rfl (opc1 (a := v) Tryd.call34 rfl) (k3 _ _ ((Mono.mono E1 h))) ?_; rintro u1 w2 ⟨E2, hO1⟩; have ichO1 := OwnedB.isC (Owned.toB hO1); have hs2 := E2.size
      refine Wo rfl (opv_move (v := .int _ _) rfl) ?_; refine Wo_call rfl (opc2 (a := u1) (b := .int _ _) Tryd.call33 rfl rfl) (k1 _ _ ((Owned.read hO1))) ?_; rintro _ w3 ⟨u2, q1, m1, rfl, E3, hO2, hQ1, hm1, hn1⟩
      have icu2 := OwnedB.isC hO2; have cpu2 := OwnedB.capOk hO2; have icq1 := OwnedB.isC (Owned.toB hQ1); have cpq1 := OwnedB.capOk (Owned.toB hQ1); have hs3 := E3.size; refine Wo rfl (opv_move (v := .tuple _) rfl) ?_
      refine Wo rfl (opv_extract (v := .agg _) rfl rfl) ?_; refine Wo rfl (opv_extract (v := .bool _) rfl rfl) ?_; refine Wo_alloc2 rfl flat53 ?_; rintro b1 w4 hb1 E4 hB1; have hlb1 := hB1.lt; have hs4 := E4.size
      refine Wo_st2 rfl Tryd.sizeOf53 rfl rfl (by first | rfl | assumption) (by first | rfl | assumption) hB1 (by omega) (((E1.trans E2).trans E3).trans E4) ?_; rintro w5 E5 hB1 K1 hz1
      have E6 := ((E2.trans E3).trans E4).wroteAt (((E1.trans E2).trans E3).trans E4) E5 K1 hz1 (by omega); have szE6 := E6.size; have E7 := (E3.trans E4).wroteAt (((E1.trans E2).trans E3).trans E4) E5 K1 hz1 (by omega)
      have szE7 := E7.size; have E8 := E4.wroteAt (((E1.trans E2).trans E3).trans E4) E5 K1 hz1 (by omega); have szE8 := E8.size; have hO1 := (hO1.toB.ext (E3.trans E4)).wrote K1 (by omega); have hO2 := (hO2.ext E4).wrote K1 (by omega)
      have hQ1 := (hQ1.toB.ext E4).wrote K1 (by omega); refine Wo rfl (opv_assign (v := .bool _) rfl) ?_; refine Wo_nil ?_; refine W_seq ?_; refine W_region rfl ?_; refine Wo rfl (opv_move (v := v) rfl) ?_
      refine Wo_call rfl (opc1 (a := v) Tryd.call34 rfl) (k3 _ _ ((Mono.mono E5 h))) ?_; rintro u3 w6 ⟨E9, hO3⟩; have ichO3 := OwnedB.isC (Owned.toB hO3); have hs5 := E9.size; refine Wo rfl (opv_assign (v := u3) rfl) ?_; refine Wo_nil ?_
      refine W_seq ?_; refine W_region rfl ?_; refine Wo rfl (opv_move (v := u3) rfl) ?_; refine Wo rfl (opv_move (v := .int _ _) rfl) ?_
      refine Wo_call rfl (opc2 (a := u3) (b := .int _ _) Tryd.call35 rfl rfl) (k2 _ _ ((Owned.read hO3))) ?_; rintro _ w7 ⟨u4, q2, m2, rfl, E10, hO4, hQ2, hm2, hn2⟩; have icu4 := OwnedB.isC hO4; have cpu4 := OwnedB.capOk hO4
      have icq2 := OwnedB.isC (Owned.toB hQ2); have cpq2 := OwnedB.capOk (Owned.toB hQ2); have hs6 := E10.size; refine Wo rfl (opv_move (v := .tuple _) rfl) ?_; refine Wo rfl (opv_extract (v := .agg _) rfl rfl) ?_
      refine Wo rfl (opv_extract (v := .bool _) rfl rfl) ?_; refine Wo_alloc2 rfl flat53 ?_; rintro b2 w8 hb2 E11 hB2; have hlb2 := hB2.lt; have hs7 := E11.size
      refine Wo_st2 rfl Tryd.sizeOf53 rfl rfl (by first | rfl | assumption) (by first | rfl | assumption) hB2 (by omega) (((E5.trans E9).trans E10).trans E11) ?_; rintro w9 E12 hB2 K2 hz2
      have E13 := (((E6.trans E9).trans E10).trans E11).wroteAt (((E5.trans E9).trans E10).trans E11) E12 K2 hz2 (by omega); have szE13 := E13.size
      have E14 := (((E7.trans E9).trans E10).trans E11).wroteAt (((E5.trans E9).trans E10).trans E11) E12 K2 hz2 (by omega); have szE14 := E14.size
      have E15 := (((E8.trans E9).trans E10).trans E11).wroteAt (((E5.trans E9).trans E10).trans E11) E12 K2 hz2 (by omega); have szE15 := E15.size
      have E16 := ((E9.trans E10).trans E11).wroteAt (((E5.trans E9).trans E10).trans E11) E12 K2 hz2 (by omega); have szE16 := E16.size; have E17 := (E10.trans E11).wroteAt (((E5.trans E9).trans E10).trans E11) E12 K2 hz2 (by omega)
      have szE17 := E17.size; have E18 := E11.wroteAt (((E5.trans E9).trans E10).trans E11) E12 K2 hz2 (by omega); have szE18 := E18.size; have hB1 := (hB1.ext ((E9.trans E10).trans E11)).of_heap (K2 _ (by omega))
      have hO1 := (hO1.ext ((E9.trans E10).trans E11)).wrote K2 (by omega); have hO2 := (hO2.ext ((E9.trans E10).trans E11)).wrote K2 (by omega); have hQ1 := (hQ1.ext ((E9.trans E10).trans E11)).wrote K2 (by omega)
      have hO3 := (hO3.toB.ext (E10.trans E11)).wrote K2 (by omega); have hO4 := (hO4.ext E11).wrote K2 (by omega); have hQ2 := (hQ2.toB.ext E11).wrote K2 (by omega); refine Wo rfl (opv_assign (v := .bool _) rfl) ?_; refine Wo_nil ?_
      refine W_seq ?_; refine W_seq ?_; refine W_region rfl ?_; refine Wo (v := .agg _) rfl (opv_load2 Tryd.isAgg53 Tryd.sizeOf53 rfl hB2) ?_; refine Wo (v := .agg _) rfl (opv_load2 Tryd.isAgg53 Tryd.sizeOf53 rfl hB1) ?_
      refine Wo_call rfl (opc2 (a := .agg _) (b := .agg _) Tryd.call36 rfl rfl) (k4 _ _ _ _ _ ((OwnedB.read hO4)) ((OwnedB.read hQ2)) ((OwnedB.read hO2)) ((OwnedB.read hQ1))) ?_; rintro _ w10 ⟨rfl, E19⟩; have hs8 := E19.size
      refine Wo rfl (opv_not rfl) ?_; refine Wo_split rfl (opv_move (v := .bool _) rfl) (fun h2 => ?_) (fun h2 => ?_); contradiction; refine Wo rfl (opv_move (v := .bool _) rfl) ?_; refine Wo rfl (opv_move (v := .bool _) rfl) ?_
      refine Wo rfl (opv_neq_bool Tryd.underlying4 rfl rfl) ?_; refine Wo rfl (opv_pick_f (v := .bool _) rfl rfl) ?_; refine Wo_nil ?_; refine W_cond_ndec rfl (fun h3 => ?_) (fun h3 => ?_); contradiction; refine W_skip ?_; refine W_seq ?_
      refine W_seq ?_; refine W_region rfl ?_; refine Wo rfl (opv_move (v := u3) rfl) ?_; refine Wo rfl (opv_move (v := v) rfl) ?_; refine Wo_call rfl (opc1 (a := v) Tryd.call34 rfl) (k3 _ _ ((Mono.mono (E12.trans E19) h))) ?_
      rintro u5 w11 ⟨E20, hO5⟩; have ichO5 := OwnedB.isC (Owned.toB hO5); have hs9 := E20.size
      refine Wo_call rfl (opc2 (a := u3) (b := u5) Tryd.call37 rfl rfl) (k5 _ _ _ ((Mono.mono (E19.trans E20) (OwnedB.read hO3))) ((Owned.read hO5))) ?_; rintro _ w12 ⟨rfl, E21⟩; have hs10 := E21.size; refine Wo rfl (opv_not rfl) ?_
      refine Wo_nil ?_; refine W_cond rfl (fun h4 => ?_) (fun h4 => ?_); contradiction; refine W_skip ?_; refine W_seq ?_; refine W_region rfl ?_; refine Wo rfl (opv_assign (v := .int _ _) rfl) ?_; refine Wo_nil ?_; refine W_seq ?_
      refine W_region rfl ?_; refine Wo rfl (opv_move (v := u3) rfl) ?_; refine Wo rfl (opv_move (v := .int _ _) rfl) ?_
      refine Wo_call rfl (opc2 (a := u3) (b := .int _ _) Tryd.call38 rfl rfl) (k6 _ _ _ _ ((hO3.ext ((E19.trans E20).trans E21)))) ?_; rintro _ w13 ⟨rfl, E22, hO6⟩; have hB2 := (hB2.ext ((E19.trans E20).trans E21)).span E22 (by omega)
      have hB1 := (hB1.ext ((E19.trans E20).trans E21)).span E22 (by omega); have hO1 := (hO1.ext ((E19.trans E20).trans E21)).span E22 (by omega); have hO2 := (hO2.ext ((E19.trans E20).trans E21)).span E22 (by omega)
      have hQ1 := (hQ1.ext ((E19.trans E20).trans E21)).span E22 (by omega); have hO4 := (hO4.ext ((E19.trans E20).trans E21)).span E22 (by omega); have hQ2 := (hQ2.ext ((E19.trans E20).trans E21)).span E22 (by omega)
      have hO5 := (hO5.toB.ext E21).span E22 (by omega); have E23 := (((E12.trans E19).trans E20).trans E21).span E22 (by omega); have E24 := ((((E13.trans E19).trans E20).trans E21)).span E22 (by omega); have szE24 := E24.size
      have E25 := ((((E14.trans E19).trans E20).trans E21)).span E22 (by omega); have szE25 := E25.size; have E26 := ((((E15.trans E19).trans E20).trans E21)).span E22 (by omega); have szE26 := E26.size
      have E27 := ((((E16.trans E19).trans E20).trans E21)).span E22 (by omega); have szE27 := E27.size; have hs11 := E22.size; refine Wo rfl (opv_assign (v := .int _ _) rfl) ?_; refine Wo_nil ?_; refine W_seq ?_; refine W_seq ?_
      refine W_region rfl ?_; refine Wo rfl (opv_move (v := .int _ _) rfl) ?_; refine Wo rfl (opv_lss rfl rfl) ?_; refine Wo_split_dec rfl (opv_move (v := .bool _) rfl) (fun h10 => ?_) (fun h10 => ?_); contradiction
      refine Wo (v := .agg _) rfl (opv_load2 Tryd.isAgg53 Tryd.sizeOf53 rfl hB2) ?_; refine Wo (v := .agg _) rfl (opv_load2 Tryd.isAgg53 Tryd.sizeOf53 rfl hB1) ?_
      refine Wo_call rfl (opc2 (a := .agg _) (b := .agg _) Tryd.call36 rfl rfl) (k4 _ _ _ _ _ ((OwnedB.read hO4)) ((OwnedB.read hQ2)) ((OwnedB.read hO2)) ((OwnedB.read hQ1))) ?_; rintro _ w14 ⟨rfl, E28⟩; have hs12 := E28.size
      refine Wo rfl (opv_not rfl) ?_; refine Wo rfl (opv_pick_f (v := .bool _) rfl rfl) ?_; refine Wo_split rfl (opv_move (v := .bool _) rfl) (fun h11 => ?_) (fun h11 => ?_); contradiction; refine Wo rfl (opv_move (v := .bool _) rfl) ?_
      refine Wo rfl (opv_move (v := .bool _) rfl) ?_; refine Wo rfl (opv_neq_bool Tryd.underlying4 rfl rfl) ?_; refine Wo rfl (opv_pick_f (v := .bool _) rfl rfl) ?_; refine Wo_nil ?_; refine W_cond_ndec rfl (fun h12 => ?_) (fun h12 => ?_)
      contradiction; refine W_skip ?_; refine W_seq ?_; refine W_region rfl ?_; refine Wo rfl (opv_assign (v := .int _ _) rfl) ?_; refine Wo_nil ?_; refine W_seq ?_; refine W_region rfl ?_
      refine Wo (v := .agg _) rfl (opv_load2 Tryd.isAgg53 Tryd.sizeOf53 rfl (hB2.ext E28)) ?_; refine Wo rfl (opv_move (v := .int _ _) rfl) ?_
      refine Wo_call rfl (opc2 (a := .agg _) (b := .int _ _) Tryd.call39 rfl rfl) (k7 _ _ _ _ _ _ ((hO4.ext E28)) ((hQ2.ext E28)) (by assumption) (by assumption) (by omega)) ?_; rintro _ w15 ⟨y2, rfl, E29, hy1⟩
      have hO6 := (hO6.ext E28).span E29 (by omega); have hB2 := (hB2.ext E28).span E29 (by omega); have hB1 := (hB1.ext E28).span E29 (by omega); have hO1 := (hO1.ext E28).span E29 (by omega)
      have hO2 := (hO2.ext E28).span E29 (by omega); have hQ1 := (hQ1.ext E28).span E29 (by omega); have hO5 := (hO5.ext E28).span E29 (by omega); have E30 := (E23.trans E28).span E29 (by omega)
      have E31 := ((E24.trans E28)).span E29 (by omega); have szE31 := E31.size; have E32 := ((E25.trans E28)).span E29 (by omega); have szE32 := E32.size; have E33 := ((E26.trans E28)).span E29 (by omega); have szE33 := E33.size
      have E34 := ((E27.trans E28)).span E29 (by omega); have szE34 := E34.size; have hs13 := E29.size; refine Wo rfl (opv_assign (v := .int _ _) rfl) ?_; refine Wo_nil ?_; refine W_seq ?_
    clear stop18
    obtain ⟨rfl, hOx, hQx⟩ := hy1
    focus
      have szE34 := E34.size; have szE33 := E33.size; have szE32 := E32.size; have szE31 := E31.size; have szE30 := E30.size; have szE28 := E28.size; have szE27 := E27.size; have szE26 := E26.size; have szE25 := E25.size
      have szE24 := E24.size; have szE23 := E23.size; have szE21 := E21.size; have szE20 := E20.size; have szE19 := E19.size; have szE18 := E18.size; have szE17 := E17.size; have szE16 := E16.size; have szE15 := E15.size
      have szE14 := E14.size; have szE13 := E13.size; have szE12 := E12.size; have szE11 := E11.size; have szE10 := E10.size; have szE9 := E9.size; have szE8 := E8.size; have szE7 := E7.size; have szE6 := E6.size; have szE5 := E5.size
      have szE4 := E4.size; have szE3 := E3.size; have szE2 := E2.size; have szE1 := E1.size; refine W_region rfl ?_; refine Wo rfl (opv_assign (v := .int _ _) rfl) ?_; refine Wo_nil ?_; refine W_seq ?_; refine W_region rfl ?_
      refine Wo (v := .agg _) rfl (opv_load2 Tryd.isAgg53 Tryd.sizeOf53 rfl hB2) ?_; refine Wo rfl (opv_move (v := .int _ _) rfl) ?_
      refine Wo_call rfl (opc2 (a := .agg _) (b := .int _ _) Tryd.call40 rfl rfl) (k8 _ _ _ ((OwnedB.read hOx)) ((OwnedB.read hQx))) ?_; rintro _ w16 ⟨rfl, E35⟩; have hs14 := E35.size; refine Wo rfl (opv_assign (v := .int _ _) rfl) ?_
      refine Wo_nil ?_; refine W_seq ?_; refine W_seq ?_; refine W_region rfl ?_; refine Wo rfl (opv_move (v := .int _ _) rfl) ?_; refine Wo rfl (opv_lss rfl rfl) ?_; refine Wo_nil ?_; refine W_cond_dec rfl (fun h13 => ?_) (fun h13 => ?_)
      contradiction; refine W_skip ?_; refine W_seq ?_; refine W_seq ?_; refine W_region rfl ?_; refine Wo rfl (opv_move (v := .int _ _) rfl) ?_; refine Wo rfl (opv_move (v := .int _ _) rfl) ?_; refine Wo rfl (opv_neq rfl rfl) ?_
      refine Wo_nil ?_; refine W_cond_ndec rfl (fun h14 => ?_) (fun h14 => ?_); contradiction; refine W_skip ?_; refine W_seq ?_; refine W_region rfl ?_; refine Wo rfl (opv_move (v := v) rfl) ?_
      refine Wo_call rfl (opc1 (a := v) Tryd.call34 rfl) (k3 _ _ ((Mono.mono (E30.trans E35) h))) ?_; rintro u6 w17 ⟨E36, hO7⟩; have ichO7 := OwnedB.isC (Owned.toB hO7); have hs15 := E36.size
      refine Wo rfl (opv_move (v := .int _ _) rfl) ?_; refine Wo_call rfl (opc2 (a := u6) (b := .int _ _) Tryd.call35 rfl rfl) (k2 _ _ ((Owned.read hO7))) ?_; rintro _ w18 ⟨u7, q3, m3, rfl, E37, hO8, hQ3, hm3, hn3⟩
      have icu7 := OwnedB.isC hO8; have cpu7 := OwnedB.capOk hO8; have icq3 := OwnedB.isC (Owned.toB hQ3); have cpq3 := OwnedB.capOk (Owned.toB hQ3); have hs16 := E37.size; refine Wo rfl (opv_move (v := .tuple _) rfl) ?_
      refine Wo rfl (opv_extract (v := .agg _) rfl rfl) ?_; refine Wo rfl (opv_extract (v := .bool _) rfl rfl) ?_; refine Wo_alloc2 rfl flat53 ?_; rintro b3 w19 hb3 E38 hB3; have hlb3 := hB3.lt; have hs17 := E38.size
      refine Wo_st2 rfl Tryd.sizeOf53 rfl rfl (by first | rfl | assumption) (by first | rfl | assumption) hB3 (by omega) ((((E30.trans E35).trans E36).trans E37).trans E38) ?_; rintro w20 E39 hB3 K3 hz3
      have E40 := ((((E31.trans E35).trans E36).trans E37).trans E38).wroteAt ((((E30.trans E35).trans E36).trans E37).trans E38) E39 K3 hz3 (by omega); have szE40 := E40.size
      have E41 := ((((E32.trans E35).trans E36).trans E37).trans E38).wroteAt ((((E30.trans E35).trans E36).trans E37).trans E38) E39 K3 hz3 (by omega); have szE41 := E41.size
      have E42 := ((((E33.trans E35).trans E36).trans E37).trans E38).wroteAt ((((E30.trans E35).trans E36).trans E37).trans E38) E39 K3 hz3 (by omega); have szE42 := E42.size
      have E43 := ((((E34.trans E35).trans E36).trans E37).trans E38).wroteAt ((((E30.trans E35).trans E36).trans E37).trans E38) E39 K3 hz3 (by omega); have szE43 := E43.size
      have E44 := (((E35.trans E36).trans E37).trans E38).wroteAt ((((E30.trans E35).trans E36).trans E37).trans E38) E39 K3 hz3 (by omega); have szE44 := E44.size
      have E45 := ((E36.trans E37).trans E38).wroteAt ((((E30.trans E35).trans E36).trans E37).trans E38) E39 K3 hz3 (by omega); have szE45 := E45.size
      have E46 := (E37.trans E38).wroteAt ((((E30.trans E35).trans E36).trans E37).trans E38) E39 K3 hz3 (by omega); have szE46 := E46.size; have E47 := E38.wroteAt ((((E30.trans E35).trans E36).trans E37).trans E38) E39 K3 hz3 (by omega)
      have szE47 := E47.size; have hO6 := (hO6.ext (((E35.trans E36).trans E37).trans E38)).wrote K3 (by omega); have hB2 := (hB2.ext (((E35.trans E36).trans E37).trans E38)).of_heap (K3 _ (by omega))
      have hB1 := (hB1.ext (((E35.trans E36).trans E37).trans E38)).of_heap (K3 _ (by omega)); have hO1 := (hO1.ext (((E35.trans E36).trans E37).trans E38)).wrote K3 (by omega)
      have hO2 := (hO2.ext (((E35.trans E36).trans E37).trans E38)).wrote K3 (by omega); have hQ1 := (hQ1.ext (((E35.trans E36).trans E37).trans E38)).wrote K3 (by omega)
      have hO5 := (hO5.ext (((E35.trans E36).trans E37).trans E38)).wrote K3 (by omega); have hOx := (hOx.ext (((E35.trans E36).trans E37).trans E38)).wrote K3 (by omega)
      have hQx := (hQx.ext (((E35.trans E36).trans E37).trans E38)).wrote K3 (by omega); have hO7 := (hO7.toB.ext (E37.trans E38)).wrote K3 (by omega); have hO8 := (hO8.ext E38).wrote K3 (by omega)
      have hQ3 := (hQ3.toB.ext E38).wrote K3 (by omega); refine Wo rfl (opv_assign (v := .bool _) rfl) ?_; refine Wo_nil ?_; refine W_seq ?_; refine W_seq ?_; refine W_region rfl ?_
      refine Wo (v := .agg _) rfl (opv_load2 Tryd.isAgg53 Tryd.sizeOf53 rfl hB3) ?_; refine Wo (v := .agg _) rfl (opv_load2 Tryd.isAgg53 Tryd.sizeOf53 rfl hB1) ?_
      refine Wo_call rfl (opc2 (a := .agg _) (b := .agg _) Tryd.call36 rfl rfl) (k4 _ _ _ _ _ ((OwnedB.read hO8)) ((OwnedB.read hQ3)) ((OwnedB.read hO2)) ((OwnedB.read hQ1))) ?_; rintro _ w21 ⟨rfl, E48⟩; have hs18 := E48.size
      refine Wo rfl (opv_not rfl) ?_; refine Wo_split rfl (opv_move (v := .bool _) rfl) (fun h15 => ?_) (fun h15 => ?_); contradiction; refine Wo rfl (opv_move (v := .bool _) rfl) ?_; refine Wo rfl (opv_move (v := .bool _) rfl) ?_
      refine Wo rfl (opv_neq_bool Tryd.underlying4 rfl rfl) ?_; refine Wo rfl (opv_pick_f (v := .bool _) rfl rfl) ?_; refine Wo_nil ?_; refine W_cond_ndec rfl (fun h16 => ?_) (fun h16 => ?_); contradiction; refine W_skip ?_
      refine W_seq ?_; refine W_region rfl ?_; refine Wo rfl (opv_assign (v := .int _ _) rfl) ?_; refine Wo_nil ?_; refine W_seq ?_; refine W_region rfl ?_
      refine Wo (v := .agg _) rfl (opv_load2 Tryd.isAgg53 Tryd.sizeOf53 rfl (hB2.ext E48)) ?_; refine Wo rfl (opv_move (v := .int _ _) rfl) ?_
      refine Wo_call rfl (opc2 (a := .agg _) (b := .int _ _) Tryd.call40 rfl rfl) (k8 _ _ _ ((Mono.mono E48 (OwnedB.read hOx))) ((Mono.mono E48 (OwnedB.read hQx)))) ?_; rintro _ w22 ⟨rfl, E49⟩; have hs19 := E49.size
      refine Wo rfl (opv_assign (v := .int _ _) rfl) ?_; refine Wo_nil ?_; refine W_seq ?_; refine W_seq ?_; refine W_region rfl ?_; refine Wo rfl (opv_move (v := .int _ _) rfl) ?_; refine Wo rfl (opv_lss rfl rfl) ?_; refine Wo_nil ?_
      refine W_cond_dec rfl (fun h17 => ?_) (fun h17 => ?_); contradiction; refine W_skip ?_; refine W_seq ?_; refine W_seq ?_; refine W_region rfl ?_; refine Wo rfl (opv_move (v := .int _ _) rfl) ?_
      refine Wo rfl (opv_move (v := .int _ _) rfl) ?_; refine Wo rfl (opv_neq rfl rfl) ?_; refine Wo_nil ?_; refine W_cond_ndec rfl (fun h18 => ?_) (fun h18 => ?_); contradiction; refine W_skip ?_; refine W_seq ?_; refine W_region rfl ?_
      refine Wo rfl (opv_assign (v := .bool _) rfl) ?_; refine Wo_nil ?_; refine W_ret ?_; exact ⟨rfl, ((E39.trans E48).trans E49)⟩

end Go.Proofs.YtgphoihilheoeaaDoor
