/- Walks: what is left after some rounds, the clever side. -/
import Derived.Test.YtjdfnngmbaojjaaHsWBisI
import Derived.Test.YtjdfnngmbaojjaaHsLit
namespace Go.Proofs.Ytjdfnngmbaojjaa
open Go.Hs
set_option maxRecDepth 10000
set_option maxHeartbeats 4000000
set_option linter.unusedVariables false
set_option linter.unusedSimpArgs false

theorem fill_skip {α : Type} (l : List α) (k : Nat) (h : k < l.length) (z : α) (hz : l[k] = z) : l.take k ++ List.replicate (l.length - k) z = l.take (k + 1) ++ List.replicate (l.length - (k + 1)) z := by
  rw [take_snoc _ _ h, hz, show l.length - k = (l.length - (k + 1)) + 1 by omega, List.replicate_succ]
  simp
theorem set_fill' {α : Type} (l : List α) (n k : Nat) (hn : l.length = n) (h : k < n) (z x : α) (hx : l[k]? = some x) : (l.take k ++ List.replicate (n - k) z).set k x = l.take (k + 1) ++ List.replicate (n - (k + 1)) z := by
  subst hn
  have := set_fill l k h z
  rw [List.getElem?_eq_getElem h] at hx
  rw [← Option.some.inj hx]; exact this
theorem fill_get {α : Type} (l : List α) (k : Nat) (h : k < l.length) (z : α) : (l.take k ++ List.replicate (l.length - k) z)[k]? = some z := by
  have hl : (l.take k).length = k := by rw [List.length_take]; omega
  rw [List.getElem?_append_right (by omega), hl, Nat.sub_self, List.getElem?_replicate, if_pos (by omega)]
theorem leftAfter_ok (w : World) (v : Value) (p : List (List Int)) (h : ESl Ints w v p) (hp : Pic p) (n : Nat) (hn : n ≤ 1000) : Does Try.prog 71 [v, .int .i64 (n : Int)] w (RetO w XR (matV p (bsm p n))) := by
  have hp5 := hp.2.1
  have hle := h.le
  have hem : ∀ w, Does Try.prog 87 [.int .i64 (p.length : Int)] w (RetO w XR (List.replicate p.length (List.replicate p.length 0))) := fun w => emptyPicture_ok w p.length (by omega)
  refine fn_of_W1 Try.func71 rfl Try.results71 Try.ntmps71 rfl ?_
  focus
    refine W_seq ?_; refine W_region rfl ?_; refine Wo rfl (opv_assign (v := .slice _ _ _) rfl) ?_; refine Wo_nil ?_; refine W_seq ?_; refine W_region rfl ?_; refine Wo rfl (opv_move (v := v) rfl) ?_
    refine Wo rfl (opv_len Try.underlying30 rfl h) ?_; refine Wo_call rfl (opc1 (a := .int _ _) Try.call87 rfl) (hem _) ?_; rintro u1 w1 ⟨E1, hO1⟩; have hs1 := E1.size; refine Wo rfl (opv_assign (v := u1) rfl) ?_; refine Wo_nil ?_
    refine W_seq ?_; refine W_seq ?_; refine W_region rfl ?_; refine Wo rfl (opv_move (v := u1) rfl) ?_; refine Wo rfl (opv_len Try.underlying30 rfl (Owned.read hO1)) ?_; refine Wo rfl (opv_move (v := .int _ _) rfl) ?_; refine Wo_nil ?_
    refine W_block ?_
  have hL : (List.replicate p.length (List.replicate p.length (1 : Int))).length = p.length := by simp
  have hL2 : (List.replicate p.length (List.replicate p.length (0 : Int))).length = p.length := by simp
  have hI : (List.replicate p.length (1 : Int)).length = p.length := by simp
  refine W_loop [7, 8, 17, 18, 19, 20, 21, 22, 23, 24, 25, 26, 27, 28, 29, 30] (fun (i, rows) => [(17, .int .i64 (i : Nat))]) (fun (i, rows) w' => Ext w w' ∧ i ≤ p.length ∧ Owned w.heap.size XR w' u1 rows ∧ rows = (List.replicate p.length (List.replicate p.length (1 : Int))).take i ++ List.replicate (p.length - i) (List.replicate p.length 0)) (fun x => p.length - x.1) (0, List.replicate p.length (List.replicate p.length 0)) (by repeat (first | exact trivial | refine And.intro rfl ?_)) ?_ ?_
  · exact ⟨E1, Nat.zero_le _, hO1, by simp⟩
  rintro ⟨i, rows⟩ ρj w2 ⟨E2, hi, hO2, hr⟩
  have hrl : rows.length = p.length := by rw [hr]; simp; omega
  by_cases hil : i < p.length
  · have hri : rows[i] = List.replicate p.length (0 : Int) := by
      have h9 : rows[i]? = some (List.replicate p.length (0 : Int)) := by
        rw [hr]
        have := fill_get (List.replicate p.length (List.replicate p.length (1 : Int))) i (by omega) (List.replicate p.length (0 : Int))
        rw [hL] at this; exact this
      rw [List.getElem?_eq_getElem (by omega)] at h9
      exact Option.some.inj h9
    have hrll : rows[i].length = p.length := by rw [hri]; simp
    obtain ⟨ub, uc, rfl, _⟩ := hO2.lit (by omega)
    have hub := hO2.lt_own (k := ub) rfl
    obtain ⟨brw, crw, hRow, hbw1, hbw2⟩ := hO2.rowAt (i := i) (by omega) (by omega)
    focus
      have szE2 := E2.size; have szE1 := E1.size; refine W_seq ?_; refine W_region rfl ?_; refine Wo rfl (opv_lss rfl rfl) ?_; refine Wo_nil ?_; refine W_seq ?_; refine W_cond_dec rfl (fun h1 => ?_) (fun h1 => ?_); refine W_skip ?_
      refine W_seq ?_; refine W_block ?_; refine W_seq ?_; refine W_region rfl ?_; refine Wo_rowAt Try.underlying30 Try.sizeOf38 Try.isAgg38 rfl (fun _ => rfl) rfl ⟨_, _, rfl⟩ rfl hRow (by first | omega | (simp <;> omega)) ?_; rintro _
      refine Wo rfl (opv_assign (v := .slice _ _ _) rfl) ?_; refine Wo_nil ?_; refine W_seq ?_; refine W_region rfl ?_; refine Wo rfl (opv_move (v := .slice _ _ _) rfl) ?_; refine Wo rfl (opv_len_slice Try.underlying38 rfl) ?_
      refine Wo rfl (opv_move (v := .int _ _) rfl) ?_; refine Wo_nil ?_; refine W_block ?_; rotate_left; (exfalso; omega)
    have hJ : ∀ j, j < p.length → (List.replicate p.length (1 : Int))[j]? = some 1 := fun j hj => by rw [List.getElem?_replicate, if_pos hj]
    refine W_loop [8, 23, 24, 25, 26, 27, 28, 29] (fun (j, rows') => [(23, .int .i64 (j : Nat))]) (fun (j, rows') w' => Ext w w' ∧ w2.heap.size ≤ w'.heap.size ∧ j ≤ p.length ∧ Owned w.heap.size XR w' (.slice (some ⟨ub, 0, none⟩) rows.length uc) rows' ∧ RowAt w' (.slice (some ⟨ub, 0, none⟩) rows.length uc) i brw rows[i].length crw ∧ rows' = rows.set i ((List.replicate p.length (1 : Int)).take j ++ List.replicate (p.length - j) 0)) (fun x => p.length - x.1) (0, rows) (by repeat (first | exact trivial | refine And.intro rfl ?_)) ?_ ?_
    · refine ⟨E2, Nat.le_refl _, Nat.zero_le _, hO2, hRow, ?_⟩
      rw [show (List.replicate p.length (1 : Int)).take 0 ++ List.replicate (p.length - 0) 0 = rows[i] by rw [hri]; simp]
      simp
    rintro ⟨j, rows'⟩ ρk w3 ⟨E3, hs3, hj, hO3, hR3, hr3⟩
    have hrl3 : rows'.length = p.length := by rw [hr3]; simp [hrl]
    have hri3 : rows'[i] = (List.replicate p.length (1 : Int)).take j ++ List.replicate (p.length - j) 0 := by
      simp only [hr3, List.getElem_set_self]
    have hrll3 : rows'[i].length = p.length := by rw [hri3]; simp; omega
    clear hRow hO2
    by_cases hjl : j < p.length
    · have hnew : rows'.set i (rows'[i].set j 1) = rows.set i ((List.replicate p.length (1 : Int)).take (j + 1) ++ List.replicate (p.length - (j + 1)) 0) := by
        rw [hri3, set_fill' _ p.length j hI hjl 0 1 (hJ j hjl), hr3, List.set_set]
      focus
        have szE3 := E3.size; have szE2 := E2.size; have szE1 := E1.size; refine W_seq ?_; refine W_region rfl ?_; refine Wo rfl (opv_lss rfl rfl) ?_; refine Wo_nil ?_; refine W_seq ?_; refine W_cond_dec rfl (fun h2 => ?_) (fun h2 => ?_)
        refine W_skip ?_; refine W_seq ?_; refine W_block ?_; refine W_seq ?_; refine W_region rfl ?_; refine Wo rfl (opv_move (v := .int _ _) rfl) ?_; refine Wo rfl (opv_assign (v := .int _ _) rfl) ?_; refine Wo_nil ?_
        refine W_region rfl ?_; refine Wo rfl (opv_move (v := .slice _ _ _) rfl) ?_; refine Wo rfl (opv_move (v := .int _ _) rfl) ?_; refine Wo rfl (opv_indexAddr Try.underlying38 Try.sizeOf3 rfl rfl (by omega)) ?_
        refine Wo_gset rfl Try.sizeOf3 rfl rfl hO3.toB hR3 (by first | omega | (simp <;> omega)) (by first | omega | (simp <;> omega)) ?_; rintro w4 hO3 hR3 On1 K1 hz1; have E4 := On1.ext1 E3 (by omega); have hs2 := On1.size
        refine Wo_nil ?_; refine W_region rfl ?_; refine Wo rfl (opv_add rfl rfl (by omega)) ?_; refine Wo rfl (opv_move (v := .int _ _) rfl) ?_; refine Wo_nil ?_; rotate_left; (exfalso; omega)
      refine ⟨((j + 1, rows'.set i (rows'[i].set j 1))), by repeat (first | exact trivial | refine And.intro rfl ?_), by repeat (first | with_reducible exact Same.refl | refine Same.upd rfl ?_ | refine Same.upds rfl ?_ | refine Same.mix rfl ?_), ?_, ?_⟩
      · exact ⟨by assumption, by omega, by omega, hO3, hR3, hnew⟩
      · simp only; omega
    · obtain rfl : j = p.length := by omega
      have hnew : rows' = (List.replicate p.length (List.replicate p.length (1 : Int))).take (i + 1) ++ List.replicate (p.length - (i + 1)) (List.replicate p.length 0) := by
        rw [← set_fill' _ p.length i hL hil _ (List.replicate p.length (1 : Int)) (by rw [List.getElem?_replicate, if_pos hil]), hr3, ← hr]
        simp
      focus
        have szE3 := E3.size; have szE2 := E2.size; have szE1 := E1.size; refine W_seq ?_; refine W_region rfl ?_; refine Wo rfl (opv_lss rfl rfl) ?_; refine Wo_nil ?_; refine W_seq ?_; refine W_cond_dec rfl (fun h2 => ?_) (fun h2 => ?_)
        (exfalso; omega); refine W_exit ?_; refine exitX_same ?_; refine W_region rfl ?_; refine Wo rfl (opv_add rfl rfl (by omega)) ?_; refine Wo rfl (opv_move (v := .int _ _) rfl) ?_; refine Wo_nil ?_
      refine ⟨((i + 1, rows')), by repeat (first | exact trivial | refine And.intro rfl ?_), by repeat (first | with_reducible exact Same.refl | refine Same.upd rfl ?_ | refine Same.upds rfl ?_ | refine Same.mix rfl ?_), ?_, ?_⟩
      · exact ⟨E3, by omega, hO3, hnew⟩
      · simp only; omega
  · obtain rfl : i = p.length := by omega
    have hr0 : rows = matV p (bsm p 0) := by rw [hr, ← matV_zero]; simp
    subst hr0
    focus
      have szE2 := E2.size; have szE1 := E1.size; refine W_seq ?_; refine W_region rfl ?_; refine Wo rfl (opv_lss rfl rfl) ?_; refine Wo_nil ?_; refine W_seq ?_; refine W_cond_dec rfl (fun h1 => ?_) (fun h1 => ?_); (exfalso; omega)
      refine W_exit ?_; refine exitX_same ?_; refine W_seq ?_; refine W_seq ?_; refine W_region rfl ?_; refine Wo rfl (opv_move (v := .int _ _) rfl) ?_; refine Wo rfl (opv_move (v := .int _ _) rfl) ?_; refine Wo_nil ?_; refine W_block ?_
    clear hL hI hr
    refine W_loop [5, 9, 10, 11, 32, 33, 34, 35, 36, 37, 38, 39, 40, 41, 42, 43, 44, 45, 46, 47, 48, 49, 50, 51, 52, 53, 54, 55, 56, 57, 58, 59, 60, 61, 62, 63, 64, 65, 66, 67, 68, 69, 70, 71] (fun (m, u) => [(32, .int .i64 (m : Nat)), (5, u)]) (fun (m, u) w' => Ext w w' ∧ m ≤ n ∧ Owned w.heap.size XR w' u (matV p (bsm p m))) (fun x => n - x.1) (0, u1) (by repeat (first | exact trivial | refine And.intro rfl ?_)) ?_ ?_
    · exact ⟨E2, Nat.zero_le _, hO2⟩
    clear hO1 hO2
    rintro ⟨m, u⟩ ρm wm ⟨Em, hm, hOm⟩
    by_cases hmn : m < n
    · have hZ : (List.replicate p.length (List.replicate p.length (0 : Int))).length = p.length := by simp
      have hT := matV_len (p := p) (bsm p (m + 1))
      have hTm := matV_len (p := p) (bsm p m)
      focus
        have szEm := Em.size; have szE2 := E2.size; have szE1 := E1.size; refine W_seq ?_; refine W_region rfl ?_; refine Wo rfl (opv_lss rfl rfl) ?_; refine Wo_nil ?_; refine W_seq ?_; refine W_cond_dec rfl (fun h2 => ?_) (fun h2 => ?_)
        refine W_skip ?_; refine W_seq ?_; refine W_block ?_; refine W_seq ?_; refine W_region rfl ?_; refine Wo rfl (opv_move (v := v) rfl) ?_; refine Wo rfl (opv_len Try.underlying30 rfl h) ?_
        refine Wo_call rfl (opc1 (a := .int _ _) Try.call87 rfl) (hem _) ?_; rintro u2 w3 ⟨E3, hO1⟩; have hs2 := E3.size; refine Wo rfl (opv_assign (v := u2) rfl) ?_; refine Wo_nil ?_; refine W_seq ?_; refine W_seq ?_
        refine W_region rfl ?_; refine Wo rfl (opv_move (v := v) rfl) ?_; refine Wo rfl (opv_len Try.underlying30 rfl h) ?_; refine Wo rfl (opv_move (v := .int _ _) rfl) ?_; refine Wo_nil ?_; refine W_block ?_; rotate_left; (exfalso; omega)
      refine W_loop [10, 11, 39, 40, 41, 42, 43, 44, 45, 46, 47, 48, 49, 50, 51, 52, 53, 54, 55, 56, 57, 58, 59, 60, 61, 62, 63, 64, 65, 66, 67, 68, 69] (fun (a, nx) => [(39, .int .i64 (a : Nat))]) (fun (a, nx) w' => Ext w w' ∧ wm.heap.size ≤ w'.heap.size ∧ a ≤ p.length ∧ OwnedB w.heap.size wm.heap.size XR w' u (matV p (bsm p m)) ∧ Owned wm.heap.size XR w' u2 nx ∧ nx = (matV p (bsm p (m + 1))).take a ++ List.replicate (p.length - a) (List.replicate p.length 0)) (fun x => p.length - x.1) (0, List.replicate p.length (List.replicate p.length 0)) (by repeat (first | exact trivial | refine And.intro rfl ?_)) ?_ ?_
      · exact ⟨Em.trans E3, E3.size, Nat.zero_le _, hOm.toB.ext E3, hO1, by simp⟩
      rintro ⟨a, nx⟩ ρa wa ⟨Ea, hsa, ha, hBa, hOa, hna⟩
      have hnl : nx.length = p.length := by rw [hna]; simp [hT]; omega
      by_cases hal : a < p.length
      · have hra : nx[a] = List.replicate p.length (0 : Int) := by
          have h9 : nx[a]? = some (List.replicate p.length (0 : Int)) := by
            rw [hna]
            have := fill_get (matV p (bsm p (m + 1))) a (by omega) (List.replicate p.length (0 : Int))
            rw [hT] at this; exact this
          rw [List.getElem?_eq_getElem (by omega)] at h9
          exact Option.some.inj h9
        have hral : nx[a].length = p.length := by rw [hra]; simp
        obtain ⟨ub, uc, rfl, _⟩ := hOa.lit (by omega)
        have hub := hOa.lt_own (k := ub) rfl
        obtain ⟨brw, crw, hRow, hbw1, hbw2⟩ := hOa.rowAt (i := a) (by omega) (by omega)
        have hTa := matV_rlen (p := p) (S := bsm p (m + 1)) hal
        have hma := matV_rlen (p := p) (S := bsm p m) hal
        focus
          have szEa := Ea.size; have szE3 := E3.size; have szEm := Em.size; have szE2 := E2.size; have szE1 := E1.size; refine W_seq ?_; refine W_region rfl ?_; refine Wo rfl (opv_lss rfl rfl) ?_; refine Wo_nil ?_; refine W_seq ?_
          refine W_cond_dec rfl (fun h3 => ?_) (fun h3 => ?_); refine W_skip ?_; refine W_seq ?_; refine W_block ?_; refine W_seq ?_; refine W_region rfl ?_; refine Wo rfl (opv_move (v := .int _ _) rfl) ?_
          refine Wo rfl (opv_assign (v := .int _ _) rfl) ?_; refine Wo_nil ?_; refine W_seq ?_; refine W_region rfl ?_; refine Wo rfl (opv_move (v := v) rfl) ?_; refine Wo rfl (opv_len Try.underlying30 rfl h) ?_
          refine Wo rfl (opv_move (v := .int _ _) rfl) ?_; refine Wo_nil ?_; refine W_block ?_; rotate_left; (exfalso; omega)
        refine W_loop [11, 44, 45, 46, 47, 48, 49, 50, 51, 52, 53, 54, 55, 56, 57, 58, 59, 60, 61, 62, 63, 64, 65, 66, 67, 68] (fun (b, nb) => [(44, .int .i64 (b : Nat))]) (fun (b, nb) w' => Ext w w' ∧ wa.heap.size ≤ w'.heap.size ∧ b ≤ p.length ∧ OwnedB w.heap.size wm.heap.size XR w' u (matV p (bsm p m)) ∧ Owned wm.heap.size XR w' (.slice (some ⟨ub, 0, none⟩) nx.length uc) nb ∧ RowAt w' (.slice (some ⟨ub, 0, none⟩) nx.length uc) a brw nx[a].length crw ∧ nb = nx.set a (((matV p (bsm p (m + 1)))[a]'(by omega)).take b ++ List.replicate (p.length - b) 0)) (fun x => p.length - x.1) (0, nx) (by repeat (first | exact trivial | refine And.intro rfl ?_)) ?_ ?_
        · refine ⟨Ea, Nat.le_refl _, Nat.zero_le _, hBa, hOa, hRow, ?_⟩
          rw [show ((matV p (bsm p (m + 1)))[a]'(by omega)).take 0 ++ List.replicate (p.length - 0) 0 = nx[a] by rw [hra]; simp]
          simp
        clear hBa hOa hRow hO1
        rintro ⟨b, nb⟩ ρb wb ⟨Eb, hsb, hb, hBb, hOb, hRb, hnb⟩
        have hbl : nb.length = p.length := by rw [hnb]; simp [hnl]
        have hrb : nb[a] = ((matV p (bsm p (m + 1)))[a]'(by omega)).take b ++ List.replicate (p.length - b) 0 := by
          simp only [hnb, List.getElem_set_self]
        have hrbl : nb[a].length = p.length := by rw [hrb]; simp [hTa]; omega
        by_cases hbl2 : b < p.length
        · have hme := matV_at (p := p) (S := bsm p m) hal hbl2
          have hTe := matV_at (p := p) (S := bsm p (m + 1)) hal hbl2
          have han : ∀ (w : World) (v v' : Value), ESl Ints w v p → ESl Ints w v' (matV p (bsm p m)) → Does Try.prog 88 [v, v', .int .i64 (a : Int), .int .i64 (b : Int)] w (Ret w (.bool (mch p (bsm p m) a b && mch p (bsm p m) b a))) := fun w v v' h1 h2 => by
            have := answered_ok w v v' p h1 hp (bsm p m) h2 a b hal hbl2
            rw [← mch_flip (bsm_sym m)] at this
            exact this
          have hset : bsm p (m + 1) a b = true → nb.set a (nb[a].set b 1) = nx.set a (((matV p (bsm p (m + 1)))[a]'(by omega)).take (b + 1) ++ List.replicate (p.length - (b + 1)) 0) := fun ht => by
            rw [hrb, set_fill' _ p.length b hTa hbl2 0 1 (by rw [List.getElem?_eq_getElem (by omega), hTe, ht]; rfl)]
            exact (congrArg (fun l => List.set l a _) hnb).trans (List.set_set ..)
          have hskip : bsm p (m + 1) a b = false → nb = nx.set a (((matV p (bsm p (m + 1)))[a]'(by omega)).take (b + 1) ++ List.replicate (p.length - (b + 1)) 0) := fun ht => by
            have := fill_skip ((matV p (bsm p (m + 1)))[a]'(by omega)) b (by omega) (0 : Int) (by rw [hTe, ht]; rfl)
            simp only [hTa] at this
            exact hnb.trans (congrArg (fun r => nx.set a r) this)
          have hdef : bsm p (m + 1) a b = (bsm p m a b && (mch p (bsm p m) a b && mch p (bsm p m) b a)) := rfl
          focus
            have szEb := Eb.size; have szEa := Ea.size; have szE3 := E3.size; have szEm := Em.size; have szE2 := E2.size; have szE1 := E1.size; refine W_seq ?_; refine W_region rfl ?_; refine Wo rfl (opv_lss rfl rfl) ?_; refine Wo_nil ?_
            refine W_seq ?_; refine W_cond_dec rfl (fun h4 => ?_) (fun h4 => ?_); refine W_skip ?_; refine W_seq ?_; refine W_block ?_; refine W_seq ?_; refine W_region rfl ?_; refine Wo rfl (opv_move (v := .int _ _) rfl) ?_
            refine Wo rfl (opv_assign (v := .int _ _) rfl) ?_; refine Wo_nil ?_; refine W_seq ?_; refine W_region rfl ?_; refine Wo rfl (opv_move (v := u) rfl) ?_; refine Wo rfl (opv_move (v := .int _ _) rfl) ?_
            refine Wo_get Try.underlying30 Try.sizeOf38 Try.isAgg38 rfl (fun _ => rfl) rfl (OwnedB.read hBb) (Ext.refl _) rfl (by first | omega | (simp <;> omega)) ?_; rintro _ u2 hu1; refine Wo rfl (opv_move (v := .int _ _) rfl) ?_
            refine Wo_get Try.underlying38 Try.sizeOf3 Try.isAgg3 rfl (fun _ => rfl) rfl hu1 (Ext.refl _) rfl (by first | omega | (simp <;> omega)) ?_; rintro _ _ rfl; refine Wo rfl (opv_eql rfl rfl) ?_
            refine Wo_split_dec rfl (opv_move (v := .bool _) rfl) (fun h5 => ?_) (fun h5 => ?_); refine Wo rfl (opv_move (v := v) rfl) ?_; refine Wo rfl (opv_move (v := u) rfl) ?_; refine Wo rfl (opv_move (v := .int _ _) rfl) ?_
            refine Wo rfl (opv_move (v := .int _ _) rfl) ?_; refine Wo_call rfl (opc4 (a := v) (b := u) (c := .int _ _) (d := .int _ _) Try.call88 rfl rfl rfl rfl) (han _ _ _ ((Mono.mono Eb h)) ((OwnedB.read hBb))) ?_; rintro _ w4 ⟨rfl, E4⟩
            have hs3 := E4.size; refine Wo rfl (opv_pick_t (v := .bool _) rfl rfl) ?_; refine Wo_nil ?_; refine W_cond rfl (fun h6 => ?_) (fun h6 => ?_); refine W_region rfl ?_; refine Wo rfl (opv_move (v := .slice _ _ _) rfl) ?_
            refine Wo rfl (opv_move (v := .int _ _) rfl) ?_; refine Wo_rowAt Try.underlying30 Try.sizeOf38 Try.isAgg38 rfl (fun _ => rfl) rfl ⟨_, _, rfl⟩ rfl (hRb.ext E4) (by first | omega | (simp <;> omega)) ?_; rintro _
            refine Wo rfl (opv_move (v := .int _ _) rfl) ?_; refine Wo rfl (opv_indexAddr Try.underlying38 Try.sizeOf3 rfl rfl (by omega)) ?_
            refine Wo_gset rfl Try.sizeOf3 rfl rfl (hOb.toB.ext E4) (hRb.ext E4) (by first | omega | (simp <;> omega)) (by first | omega | (simp <;> omega)) ?_; rintro w5 hOb hRb On1 K1 hz1; have E5 := On1.ext1 (Eb.trans E4) (by omega)
            have hBb := (hBb.ext E4).wrote K1 (by omega); have hs4 := On1.size; refine Wo_nil ?_; refine W_region rfl ?_; refine Wo rfl (opv_add rfl rfl (by omega)) ?_; refine Wo rfl (opv_move (v := .int _ _) rfl) ?_; refine Wo_nil ?_
            rotate_left; refine W_skip ?_; refine W_region rfl ?_; refine Wo rfl (opv_add rfl rfl (by omega)) ?_; refine Wo rfl (opv_move (v := .int _ _) rfl) ?_; refine Wo_nil ?_; rotate_left; refine Wo_skip rfl ?_; refine Wo_skip rfl ?_
            refine Wo_skip rfl ?_; refine Wo_skip rfl ?_; refine Wo_skip rfl ?_; refine Wo rfl (opv_pick_f (v := .bool _) rfl rfl) ?_; refine Wo_nil ?_; refine W_cond_false rfl ?_; refine W_skip ?_; refine W_region rfl ?_
            refine Wo rfl (opv_add rfl rfl (by omega)) ?_; refine Wo rfl (opv_move (v := .int _ _) rfl) ?_; refine Wo_nil ?_; rotate_left; (exfalso; omega)
          · have ht : bsm p (m + 1) a b = true := by
              rw [hdef, show bsm p m a b = true from b01_one.1 (hme.symm.trans (by assumption)), show (mch p (bsm p m) a b && mch p (bsm p m) b a) = true by assumption]; rfl
            refine ⟨((b + 1, nb.set a (nb[a].set b 1))), by repeat (first | exact trivial | refine And.intro rfl ?_), by repeat (first | with_reducible exact Same.refl | refine Same.upd rfl ?_ | refine Same.upds rfl ?_ | refine Same.mix rfl ?_), ?_, ?_⟩
            · exact ⟨by assumption, by omega, by omega, hBb, hOb, hRb, hset ht⟩
            · simp only; omega
          · have ht : bsm p (m + 1) a b = false := by
              rw [hdef, show (mch p (bsm p m) a b && mch p (bsm p m) b a) = false by assumption, Bool.and_false]
            refine ⟨((b + 1, nb)), by repeat (first | exact trivial | refine And.intro rfl ?_), by repeat (first | with_reducible exact Same.refl | refine Same.upd rfl ?_ | refine Same.upds rfl ?_ | refine Same.mix rfl ?_), ?_, ?_⟩
            · exact ⟨Eb.trans E4, by omega, by omega, hBb.ext E4, hOb.ext E4, hRb.ext E4, hskip ht⟩
            · simp only; omega
          · have ht : bsm p (m + 1) a b = false := by
              rw [hdef]
              cases hs : bsm p m a b with
              | false => rfl
              | true => rw [hs] at hme; exact absurd hme (by assumption)
            refine ⟨((b + 1, nb)), by repeat (first | exact trivial | refine And.intro rfl ?_), by repeat (first | with_reducible exact Same.refl | refine Same.upd rfl ?_ | refine Same.upds rfl ?_ | refine Same.mix rfl ?_), ?_, ?_⟩
            · exact ⟨Eb, by omega, by omega, hBb, hOb, hRb, hskip ht⟩
            · simp only; omega
        · obtain rfl : b = p.length := by omega
          have hnew : nb = (matV p (bsm p (m + 1))).take (a + 1) ++ List.replicate (p.length - (a + 1)) (List.replicate p.length 0) := by
            have hrow : ((matV p (bsm p (m + 1)))[a]'(by omega)).take p.length ++ List.replicate (p.length - p.length) 0 = (matV p (bsm p (m + 1)))[a]'(by omega) := by rw [List.take_of_length_le (by omega)]; simp
            have hsf := set_fill' _ p.length a hT hal (List.replicate p.length (0 : Int)) ((matV p (bsm p (m + 1)))[a]'(by omega)) (by rw [List.getElem?_eq_getElem (by omega)])
            exact (hnb.trans ((congrArg (fun r => nx.set a r) hrow).trans (congrArg (fun l => List.set l a _) hna))).trans hsf
          focus
            have szEb := Eb.size; have szEa := Ea.size; have szE3 := E3.size; have szEm := Em.size; have szE2 := E2.size; have szE1 := E1.size; refine W_seq ?_; refine W_region rfl ?_; refine Wo rfl (opv_lss rfl rfl) ?_; refine Wo_nil ?_
            refine W_seq ?_; refine W_cond_dec rfl (fun h4 => ?_) (fun h4 => ?_); (exfalso; omega); refine W_exit ?_; refine exitX_same ?_; refine W_region rfl ?_; refine Wo rfl (opv_add rfl rfl (by omega)) ?_
            refine Wo rfl (opv_move (v := .int _ _) rfl) ?_; refine Wo_nil ?_
          refine ⟨((a + 1, nb)), by repeat (first | exact trivial | refine And.intro rfl ?_), by repeat (first | with_reducible exact Same.refl | refine Same.upd rfl ?_ | refine Same.upds rfl ?_ | refine Same.mix rfl ?_), ?_, ?_⟩
          · exact ⟨Eb, by omega, by omega, hBb, hOb, hnew⟩
          · simp only; omega
      · obtain rfl : a = p.length := by omega
        have hnx : nx = matV p (bsm p (m + 1)) := by rw [hna, ← hT]; simp
        subst hnx
        focus
          have szEa := Ea.size; have szE3 := E3.size; have szEm := Em.size; have szE2 := E2.size; have szE1 := E1.size; refine W_seq ?_; refine W_region rfl ?_; refine Wo rfl (opv_lss rfl rfl) ?_; refine Wo_nil ?_; refine W_seq ?_
          refine W_cond_dec rfl (fun h3 => ?_) (fun h3 => ?_); (exfalso; omega); refine W_exit ?_; refine exitX_same ?_; refine W_region rfl ?_; refine Wo rfl (opv_move (v := u2) rfl) ?_; refine Wo rfl (opv_assign (v := u2) rfl) ?_
          refine Wo_nil ?_; refine W_region rfl ?_; refine Wo rfl (opv_add rfl rfl (by omega)) ?_; refine Wo rfl (opv_move (v := .int _ _) rfl) ?_; refine Wo_nil ?_
        refine ⟨((m + 1, u2)), by repeat (first | exact trivial | refine And.intro rfl ?_), by repeat (first | with_reducible exact Same.refl | refine Same.upd rfl ?_ | refine Same.upds rfl ?_ | refine Same.mix rfl ?_), ?_, ?_⟩
        · exact ⟨Ea, by omega, hOa.mono (by omega)⟩
        · simp only; omega
    · obtain rfl : m = n := by omega
      focus
        have szEm := Em.size; have szE2 := E2.size; have szE1 := E1.size; refine W_seq ?_; refine W_region rfl ?_; refine Wo rfl (opv_lss rfl rfl) ?_; refine Wo_nil ?_; refine W_seq ?_; refine W_cond_dec rfl (fun h2 => ?_) (fun h2 => ?_)
        (exfalso; omega); refine W_exit ?_; refine exitX_same ?_; refine W_seq ?_; refine W_region rfl ?_; refine Wo rfl (opv_move (v := u) rfl) ?_; refine Wo rfl (opv_assign (v := u) rfl) ?_; refine Wo_nil ?_; refine W_ret ?_
        exact ⟨Em, hOm.toB.o.mono (by omega)⟩

end Go.Proofs.Ytjdfnngmbaojjaa
