/- Loops, and pictures without them: no program in sight. -/
import Derived.Test.YthhaodjjfofogaaHsRch
set_option linter.unusedVariables false
namespace Go.Hs
section
variable {p : List (List Int)} {i j k l n m : Nat}
/-- by one arrow or more -/
noncomputable def thr (p : List (List Int)) (k j : Nat) : Bool := (arr p k).any fun m => rch p m j
theorem thr_iff : thr p k j = true ↔ ∃ m ∈ arr p k, Rch p m j := by
  unfold thr
  rw [List.any_eq_true]
  exact ⟨fun ⟨m, h1, h2⟩ => ⟨m, h1, rch_iff.1 h2⟩, fun ⟨m, h1, h2⟩ => ⟨m, h1, rch_iff.2 h2⟩⟩
theorem thr_rch (h : thr p k j = true) : Rch p k j := by
  obtain ⟨m, h1, h2⟩ := thr_iff.1 h
  exact Rch.head h1 h2
theorem thr_of (h : Rch p k j) (hne : k ≠ j) : thr p k j = true := by
  rcases h.heads with h | ⟨m, h1, h2⟩
  · exact absurd h hne
  · exact thr_iff.2 ⟨m, h1, h2⟩
theorem thr_trans (h : thr p k j = true) (h2 : Rch p j l) : thr p k l = true := by
  obtain ⟨m, h1, h3⟩ := thr_iff.1 h
  exact thr_iff.2 ⟨m, h1, h3.trans h2⟩
/-- one loop -/
noncomputable def lpB (p : List (List Int)) (k j : Nat) : Bool := thr p k j && thr p j k
theorem lpB_iff : lpB p k j = true ↔ thr p k j = true ∧ thr p j k = true := by unfold lpB; rw [Bool.and_eq_true]
theorem lpB_self (h : lpB p k j = true) : lpB p k k = true := by
  obtain ⟨h1, h2⟩ := lpB_iff.1 h
  have := thr_trans h1 (thr_rch h2)
  exact lpB_iff.2 ⟨this, this⟩
theorem lpB_sym (h : lpB p k j = true) : lpB p j k = true := by
  obtain ⟨h1, h2⟩ := lpB_iff.1 h
  exact lpB_iff.2 ⟨h2, h1⟩
theorem lpB_trans (h : lpB p k j = true) (h2 : lpB p j l = true) : lpB p k l = true := by
  obtain ⟨h1, h3⟩ := lpB_iff.1 h
  obtain ⟨h4, h5⟩ := lpB_iff.1 h2
  exact lpB_iff.2 ⟨thr_trans h1 (thr_rch h4), thr_trans h5 (thr_rch h3)⟩
/-- the least node of the loop, -1 for none -/
noncomputable def lpV (p : List (List Int)) (k : Nat) : Int := match (List.range p.length).find? (lpB p k) with
  | some j => (j : Int)
  | none => -1
theorem find_first' {P : Nat → Bool} {x : Nat} : ∀ (l : List Nat), l.Pairwise (· < ·) → x ∈ l → P x = true → (∀ y ∈ l, y < x → P y = false) → l.find? P = some x := by
  intro l
  induction l with
  | nil => intro _ h; cases h
  | cons y ys ih =>
    intro hp hx h1 h2
    rcases List.mem_cons.1 hx with rfl | hx
    · simp [h1]
    · have hlt := (List.pairwise_cons.1 hp).1 x hx
      rw [List.find?_cons, h2 y (by simp) hlt]
      exact ih (List.pairwise_cons.1 hp).2 hx h1 fun z hz => h2 z (by simp [hz])
theorem lpV_some (hj : j < p.length) (h1 : lpB p k j = true) (h2 : ∀ i, i < j → lpB p k i = false) : lpV p k = (j : Int) := by
  unfold lpV
  rw [find_first' (x := j) _ List.pairwise_lt_range (List.mem_range.2 hj) h1 fun y _ hl => h2 y hl]
theorem lpV_none (h : ∀ i, i < p.length → lpB p k i = false) : lpV p k = -1 := by
  unfold lpV
  rw [List.find?_eq_none.2 fun x hx => by rw [h x (List.mem_range.1 hx)]; decide]
theorem lpV_or (p : List (List Int)) (k : Nat) : (lpV p k = -1 ∧ ∀ i, i < p.length → lpB p k i = false) ∨ ∃ j, j < p.length ∧ lpV p k = (j : Int) ∧ lpB p k j = true ∧ ∀ i, i < j → lpB p k i = false := by
  by_cases h : ∀ i, i < p.length → lpB p k i = false
  · exact .inl ⟨lpV_none h, h⟩
  · right
    cases hf : (List.range p.length).find? (lpB p k) with
    | none =>
      exact absurd (fun i hi => by simpa using List.find?_eq_none.1 hf i (List.mem_range.2 hi)) h
    | some j =>
      have hj := List.mem_range.1 (List.mem_of_find?_eq_some hf)
      have h1 := List.find?_some hf
      obtain ⟨_, as, bs, he, ha⟩ := List.find?_eq_some_iff_append.1 hf
      refine ⟨j, hj, by unfold lpV; rw [hf], h1, fun i hi => ?_⟩
      have hi' : i ∈ as := by
        have hm : i ∈ List.range p.length := List.mem_range.2 (by omega)
        have hs : (List.range p.length).Pairwise (· < ·) := List.pairwise_lt_range
        rw [he] at hm hs
        rcases List.mem_append.1 hm with hm | hm
        · exact hm
        · rcases List.mem_cons.1 hm with rfl | hm
          · omega
          · have := (List.pairwise_cons.1 (List.pairwise_append.1 hs).2.1).1 i hm; omega
      simpa using ha i hi'
theorem lpV_ge (p : List (List Int)) (k : Nat) : -1 ≤ lpV p k ∧ lpV p k < p.length := by
  rcases lpV_or p k with ⟨h, _⟩ | ⟨j, h1, h, _⟩ <;> omega
theorem lpV_pos (hk : k < p.length) : 0 ≤ lpV p k ↔ lpB p k k = true := by
  rcases lpV_or p k with ⟨h, h2⟩ | ⟨j, h1, h, h2, h3⟩
  · rw [h, h2 k hk]; simp
  · rw [h, lpB_self h2]; simp
theorem lpV_le (hk : k < p.length) : lpV p k ≤ k := by
  rcases lpV_or p k with ⟨h, h2⟩ | ⟨j, h1, h, h2, h3⟩
  · omega
  · rcases Nat.lt_or_ge k j with hl | hl
    · have := h3 k hl; rw [lpB_self h2] at this; cases this
    · omega
theorem lpV_cong (h : lpB p k j = true) : lpV p k = lpV p j := by
  unfold lpV
  have : lpB p k = lpB p j := by
    funext i
    rw [Bool.eq_iff_iff]
    exact ⟨fun h2 => lpB_trans (lpB_sym h) h2, fun h2 => lpB_trans h h2⟩
  rw [this]
theorem lpV_lpV (h : 0 ≤ lpV p k) : lpV p (lpV p k).toNat = lpV p k := by
  rcases lpV_or p k with ⟨h1, h2⟩ | ⟨j, h1, h3, h2, _⟩
  · omega
  · have e : (lpV p k).toNat = j := by omega
    rw [e]; exact (lpV_cong h2).symm
theorem lpV_same (hk : k < p.length) (hj : j < p.length) (h : 0 ≤ lpV p k) (he : lpV p k = lpV p j) : lpB p k j = true := by
  rcases lpV_or p k with ⟨h1, h2⟩ | ⟨a, h1, h3, h2, _⟩
  · omega
  · rcases lpV_or p j with ⟨h4, h5⟩ | ⟨b, h4, h6, h5, _⟩
    · omega
    · have : a = b := by omega
      subst this
      exact lpB_trans h2 (lpB_sym h5)
theorem lpB_cback (hp : Pic p) (hk : k < p.length) (h : lpB p k k = true) : cback p k = true := by
  obtain ⟨m, h1, h2⟩ := thr_iff.1 (lpB_iff.1 h).1
  exact (cback_iff hp hk).2 ⟨k, m, .refl _, h1, h2⟩
theorem cback_lp (hp : Pic p) (hk : k < p.length) (h : cback p k = true) : ∃ u, u < p.length ∧ lpB p u u = true := by
  obtain ⟨u, v, h1, h2, h3⟩ := (cback_iff hp hk).1 h
  have := thr_iff.2 ⟨v, h2, h3⟩
  exact ⟨u, h1.lt hp hk, lpB_iff.2 ⟨this, this⟩⟩
/-- the clever way -/
theorem onl_thr (hp : Pic p) (hk : k < p.length) : onl p k = thr p k k := by
  unfold onl thr
  rw [Bool.eq_iff_iff, List.any_eq_true, List.any_eq_true]
  constructor
  · rintro ⟨v, h1, h2⟩
    exact ⟨v, h1, rch_iff.2 ((mem_rf hp ((mem_arr hp hk).1 h1).1).1 (List.contains_iff_mem.1 h2))⟩
  · rintro ⟨v, h1, h2⟩
    exact ⟨v, h1, List.contains_iff_mem.2 ((mem_rf hp ((mem_arr hp hk).1 h1).1).2 (rch_iff.1 h2))⟩
theorem lpV_off (hp : Pic p) (hk : k < p.length) (h : onl p k = false) : lpV p k = -1 := lpV_none fun i hi => by
  cases hb : lpB p k i with
  | false => rfl
  | true =>
    have := (lpB_iff.1 (lpB_self hb)).1
    rw [← onl_thr hp hk, h] at this; cases this
theorem lpB_on (hp : Pic p) (hk : k < p.length) (h : onl p k = true) (hj : j ∈ rf p k) : lpB p k j = (rf p j).contains k := by
  have hr := (mem_rf hp hk).1 hj
  have hjl := hr.lt hp hk
  rw [onl_thr hp hk] at h
  rw [Bool.eq_iff_iff, List.contains_iff_mem, mem_rf hp hjl, lpB_iff]
  constructor
  · exact fun h => thr_rch h.2
  · intro h2
    refine ⟨thr_trans h hr, ?_⟩
    by_cases e : j = k
    · subst e; exact h
    · exact thr_of h2 e
theorem lpB_rf (hp : Pic p) (hk : k < p.length) (h : lpB p k j = true) : j ∈ rf p k := (mem_rf hp hk).2 (thr_rch (lpB_iff.1 h).1)

/-- without the arrows within loops -/
noncomputable def cutR (p : List (List Int)) (k : Nat) : List Int := (List.range p.length).map fun j => if lpV p k = lpV p j ∧ 0 ≤ lpV p k then 0 else bit p k j
noncomputable def cutV (p : List (List Int)) : List (List Int) := (List.range p.length).map (cutR p)
theorem cutR_len : (cutR p k).length = p.length := by simp [cutR]
theorem cutV_len : (cutV p).length = p.length := by simp [cutV]
theorem cutV_row (hk : k < p.length) : (cutV p)[k]'(by rw [cutV_len]; exact hk) = cutR p k := by simp [cutV]
theorem cutR_at (hj : j < p.length) : (cutR p k)[j]'(by rw [cutR_len]; exact hj) = if lpV p k = lpV p j ∧ 0 ≤ lpV p k then 0 else bit p k j := by simp [cutR]
theorem cutV_pic (hp : Pic p) : Pic (cutV p) := by
  refine ⟨by rw [cutV_len]; exact hp.1, by rw [cutV_len]; exact hp.2.1, fun r hr => ?_⟩
  rw [cutV_len]
  simp only [cutV, List.mem_map, List.mem_range] at hr
  obtain ⟨k, hk, rfl⟩ := hr
  refine ⟨cutR_len, fun x hx => ?_⟩
  simp only [cutR, List.mem_map, List.mem_range] at hx
  obtain ⟨j, hj, rfl⟩ := hx
  split
  · exact .inl rfl
  · exact hp.bit01 k j
theorem bit_cut (hk : k < p.length) (hj : j < p.length) : bit (cutV p) k j = if lpV p k = lpV p j ∧ 0 ≤ lpV p k then 0 else bit p k j := by
  show ((cutV p).getD k []).getD j 0 = _
  have e : (cutV p).getD k [] = cutR p k := by rw [getD_lt (by rw [cutV_len]; exact hk), cutV_row hk]
  rw [e, getD_lt (by rw [cutR_len]; exact hj), cutR_at hj]
theorem arr_cut (hp : Pic p) (hk : k < p.length) (h : j ∈ arr (cutV p) k) : j ∈ arr p k ∧ ¬ (lpV p k = lpV p j ∧ 0 ≤ lpV p k) := by
  have h1 := (mem_arr (cutV_pic hp) (by rw [cutV_len]; exact hk)).1 h
  rw [cutV_len] at h1
  obtain ⟨hj, h2⟩ := h1
  rw [bit_cut hk hj] at h2
  split at h2
  · cases h2
  · rename_i hn
    exact ⟨(mem_arr hp hk).2 ⟨hj, h2⟩, hn⟩
theorem rch_cut (hp : Pic p) (hk : k < p.length) (h : Rch (cutV p) k j) : Rch p k j := by
  induction h with
  | refl => exact .refl _
  | step h hj ih => exact ih.step (arr_cut hp (ih.lt hp hk) hj).1
theorem cback_cut (hp : Pic p) (hk : k < p.length) : cback (cutV p) k = false := by
  cases hc : cback (cutV p) k with
  | false => rfl
  | true =>
    obtain ⟨u, v, h1, h2, h3⟩ := (cback_iff (cutV_pic hp) (by rw [cutV_len]; exact hk)).1 hc
    have hu := (rch_cut hp hk h1).lt hp hk
    obtain ⟨h4, h5⟩ := arr_cut hp hu h2
    have hv := ((mem_arr hp hu).1 h4).1
    have h6 := rch_cut hp hv h3
    have t1 : thr p u u = true := thr_iff.2 ⟨v, h4, h6⟩
    have t2 : thr p v u = true := by
      by_cases e : v = u
      · rw [e]; exact t1
      · exact thr_of h6 e
    have hl : lpB p u v = true := lpB_iff.2 ⟨thr_iff.2 ⟨v, h4, .refl _⟩, t2⟩
    exact absurd ⟨lpV_cong hl, (lpV_pos hu).2 (lpB_self hl)⟩ h5
theorem cut_same (hp : Pic p) (h : ∀ k, k < p.length → cback p k = false) : cutV p = p := by
  have hl : ∀ k, k < p.length → lpV p k = -1 := fun k hk => lpV_none fun i hi => by
    cases hb : lpB p k i with
    | false => rfl
    | true => have := lpB_cback hp hk (lpB_self hb); rw [h k hk] at this; cases this
  refine List.ext_getElem cutV_len fun k h1 h2 => ?_
  rw [cutV_row h2]
  refine List.ext_getElem (by rw [cutR_len, hp.row h2]) fun j h3 h4 => ?_
  rw [hp.row h2] at h4
  rw [cutR_at h4, if_neg (by rw [hl k h2]; omega)]
  unfold bit
  rw [getD_lt h2, getD_lt (by rw [hp.row h2]; exact h4)]
end
end Go.Hs
