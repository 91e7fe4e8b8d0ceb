/- Streams drawn as sets: no program in sight. -/
import Derived.Test.YtlalfmialbolhaaHsStm
import Derived.Test.YtlalfmialbolhaaHsPut
set_option linter.unusedVariables false
set_option linter.unusedSimpArgs false
namespace Go.Hs
section
variable {A B A' B' : List Int} {i j k n m : Nat}
def sdNext (A B : List Int) (i : Nat) : Nat := if i + 1 = A.length + B.length then A.length else i + 1
def sdM (A B : List Int) : Nat := A.length + B.length + if (1 : Int) ∈ A ++ B then 1 else 0
def sdRow (A B : List Int) (i m : Nat) : List Int := (List.range m).map fun j => b01 (decide (j = sdNext A B i) || (decide (j = A.length + B.length) && decide ((A ++ B).getD i 0 = 1)))
/-- a node for each bit, and one behind them -/
def sdP (A B : List Int) : List (List Int) := (List.range (sdM A B)).map fun i => if i < A.length + B.length then sdRow A B i (sdM A B) else List.replicate (sdM A B) 0
theorem sdP_len : (sdP A B).length = sdM A B := by simp [sdP]
theorem sdP_gr (h1 : 1 ≤ B.length) (h2 : A.length + B.length ≤ 10) : Gr (sdP A B) := by
  have hm : 1 ≤ sdM A B ∧ sdM A B ≤ 11 := by unfold sdM; split <;> omega
  refine ⟨by rw [sdP_len]; exact hm.1, by rw [sdP_len]; exact hm.2, fun r hr => ?_⟩
  rw [sdP_len]
  obtain ⟨i, _, rfl⟩ := List.mem_map.1 hr
  split
  · refine ⟨by simp [sdRow], fun x hx => ?_⟩
    obtain ⟨j, _, rfl⟩ := List.mem_map.1 hx
    unfold b01; split <;> simp
  · exact ⟨by simp, fun x hx => .inl (List.eq_of_mem_replicate hx)⟩
theorem sdP_pic (h1 : 1 ≤ B.length) (h2 : A.length + B.length ≤ 4) : Pic (sdP A B) := by
  have h := sdP_gr (A := A) h1 (by omega)
  refine ⟨h.1, ?_, h.2.2⟩
  rw [sdP_len]; unfold sdM; split <;> omega
theorem sdNext_lt (h1 : 1 ≤ B.length) (hi : i < A.length + B.length) : sdNext A B i < A.length + B.length := by unfold sdNext; split <;> omega
theorem arr_sd (h1 : 1 ≤ B.length) (hi : i < A.length + B.length) : j ∈ arr (sdP A B) i ↔ j = sdNext A B i ∨ (j = A.length + B.length ∧ (A ++ B).getD i 0 = 1) := by
  have hm : i < (sdP A B).length := by rw [sdP_len]; unfold sdM; omega
  have hn := sdNext_lt h1 hi
  rw [mem_arr' (r := sdRow A B i (sdM A B)) hm (by simp [sdP, hi])]
  unfold sdRow
  constructor
  · rintro ⟨h2, h3⟩
    simpa [b01_one] using h3
  · intro h
    have hj : j < sdM A B := by
      unfold sdM
      rcases h with rfl | ⟨rfl, h⟩
      · omega
      · have : (1 : Int) ∈ A ++ B := by
          rw [getD_lt (by simpa using hi)] at h
          rw [← h]; exact List.getElem_mem _
        rw [if_pos this]; omega
    refine ⟨by simpa using hj, ?_⟩
    simpa [b01_one] using h
theorem arr_sink : arr (sdP A B) (A.length + B.length) = [] := by
  rw [List.eq_nil_iff_forall_not_mem]
  intro j hj
  by_cases hm : A.length + B.length < (sdP A B).length
  · rw [mem_arr' (r := List.replicate (sdM A B) 0) hm (by simp [sdP])] at hj
    obtain ⟨h1, h2⟩ := hj
    simp at h2
  · unfold arr at hj
    rw [mem_arrR, List.getD_eq_getElem?_getD, List.getElem?_eq_none (by omega)] at hj
    simp at hj
/-- the node of the bit at a place -/
def sdN (A B : List Int) (k : Nat) : Nat := if k < A.length then k else A.length + (k - A.length) % B.length
theorem sdN_lt (h1 : 1 ≤ B.length) (k : Nat) : sdN A B k < A.length + B.length := by
  unfold sdN
  split
  · omega
  · have := Nat.mod_lt (k - A.length) (show B.length > 0 by omega); omega
theorem sdN_zero (h1 : 1 ≤ B.length) : sdN A B 0 = 0 := by
  unfold sdN
  split
  · rfl
  · rw [show A.length = 0 by omega]; simp
theorem sdN_succ (h1 : 1 ≤ B.length) (k : Nat) : sdN A B (k + 1) = sdNext A B (sdN A B k) := by
  unfold sdNext
  by_cases hk : k < A.length
  · have e : sdN A B k = k := if_pos hk
    rw [e]
    by_cases hk2 : k + 1 < A.length
    · rw [if_neg (by omega)]; exact if_pos hk2
    · have e2 : sdN A B (k + 1) = A.length := by
        unfold sdN
        rw [if_neg hk2, show k + 1 - A.length = 0 by omega]; simp
      rw [e2, if_neg (by omega)]; omega
  · have e : sdN A B k = A.length + (k - A.length) % B.length := if_neg hk
    have e2 : sdN A B (k + 1) = A.length + (k + 1 - A.length) % B.length := if_neg (by omega)
    rw [e, e2, show k + 1 - A.length = (k - A.length) + 1 by omega]
    have hlt := Nat.mod_lt (k - A.length) (show B.length > 0 by omega)
    by_cases hw : (k - A.length) % B.length + 1 = B.length
    · rw [if_pos (by omega), Nat.add_mod]
      by_cases hb : B.length = 1
      · rw [hb]; simp [Nat.mod_one]
      · rw [Nat.mod_eq_of_lt (a := 1) (by omega), hw, Nat.mod_self]; omega
    · rw [if_neg (by omega), Nat.add_mod]
      by_cases hb : B.length = 1
      · rw [hb] at hw; simp [Nat.mod_one] at hw
      · rw [Nat.mod_eq_of_lt (a := 1) (by omega), Nat.mod_eq_of_lt (by omega)]; omega
theorem sdN_bit (h1 : 1 ≤ B.length) (k : Nat) : (A ++ B).getD (sdN A B k) 0 = bat A B k := by
  unfold sdN bat
  split
  · rename_i h
    rw [List.getD_eq_getElem?_getD, List.getElem?_append_left h, List.getD_eq_getElem?_getD]
  · rename_i h
    rw [List.getD_eq_getElem?_getD, List.getElem?_append_right (by omega), List.getD_eq_getElem?_getD]
    rw [show A.length + (k - A.length) % B.length - A.length = (k - A.length) % B.length by omega]
theorem arr_sdN (h1 : 1 ≤ B.length) (k : Nat) : j ∈ arr (sdP A B) (sdN A B k) ↔ j = sdN A B (k + 1) ∨ (j = A.length + B.length ∧ bat A B k = 1) := by
  rw [arr_sd h1 (sdN_lt h1 k), sdN_succ h1, sdN_bit h1]
/-- the sets are the same exactly if the bits from there on are -/
theorem sd_bis (h1 : 1 ≤ B.length) (h2 : 1 ≤ B'.length) (hb : ∀ k, bat A B k = 0 ∨ bat A B k = 1) (hb' : ∀ k, bat A' B' k = 0 ∨ bat A' B' k = 1) (i j : Nat) : Bis (sdP A B) (sdN A B i) (sdP A' B') (sdN A' B' j) ↔ ∀ k, bat A B (i + k) = bat A' B' (j + k) := by
  constructor
  · intro h
    have step : ∀ (i j : Nat), Bis (sdP A B) (sdN A B i) (sdP A' B') (sdN A' B' j) → bat A B i = bat A' B' j ∧ Bis (sdP A B) (sdN A B (i + 1)) (sdP A' B') (sdN A' B' (j + 1)) := by
      intro i j h
      have hs : ∀ i, ¬ Bis (sdP A B) (sdN A B i) (sdP A' B') (A'.length + B'.length) := fun i hx => by
        obtain ⟨y, hy, _⟩ := hx.fst _ ((arr_sdN h1 i).2 (.inl rfl))
        rw [arr_sink] at hy; cases hy
      have hs' : ∀ j, ¬ Bis (sdP A B) (A.length + B.length) (sdP A' B') (sdN A' B' j) := fun j hx => by
        obtain ⟨y, hy, _⟩ := hx.snd _ ((arr_sdN h2 j).2 (.inl rfl))
        rw [arr_sink] at hy; cases hy
      refine ⟨?_, ?_⟩
      · have hl : bat A B i = 1 → bat A' B' j = 1 := fun e => by
          obtain ⟨y, hy, hx⟩ := h.fst _ ((arr_sdN h1 i).2 (.inr ⟨rfl, e⟩))
          rcases (arr_sdN h2 j).1 hy with rfl | ⟨_, h⟩
          · exact absurd hx (hs' _)
          · exact h
        have hr : bat A' B' j = 1 → bat A B i = 1 := fun e => by
          obtain ⟨y, hy, hx⟩ := h.snd _ ((arr_sdN h2 j).2 (.inr ⟨rfl, e⟩))
          rcases (arr_sdN h1 i).1 hy with rfl | ⟨_, h⟩
          · exact absurd hx (hs _)
          · exact h
        rcases hb i with e | e
        · rcases hb' j with e' | e'
          · rw [e, e']
          · have := hr e'; rw [e] at this; cases this
        · rw [e, hl e]
      · obtain ⟨y, hy, hx⟩ := h.fst _ ((arr_sdN h1 i).2 (.inl rfl))
        rcases (arr_sdN h2 j).1 hy with rfl | ⟨rfl, _⟩
        · exact hx
        · exact absurd hx (hs _)
    have all : ∀ k, Bis (sdP A B) (sdN A B (i + k)) (sdP A' B') (sdN A' B' (j + k)) := by
      intro k
      induction k with
      | zero => exact h
      | succ k ih => exact (step _ _ ih).2
    exact fun k => (step _ _ (all k)).1
  · intro h
    refine ⟨fun x y => (∃ k, x = sdN A B (i + k) ∧ y = sdN A' B' (j + k)) ∨ (x = A.length + B.length ∧ y = A'.length + B'.length), .inl ⟨0, rfl, rfl⟩, fun x y hxy => ?_⟩
    rcases hxy with ⟨k, rfl, rfl⟩ | ⟨rfl, rfl⟩
    · refine ⟨fun z hz => ?_, fun z hz => ?_⟩
      · rcases (arr_sdN h1 _).1 hz with rfl | ⟨rfl, e⟩
        · exact ⟨_, (arr_sdN h2 (j + k)).2 (.inl rfl), .inl ⟨k + 1, rfl, rfl⟩⟩
        · exact ⟨_, (arr_sdN h2 (j + k)).2 (.inr ⟨rfl, by rw [← h k]; exact e⟩), .inr ⟨rfl, rfl⟩⟩
      · rcases (arr_sdN h2 _).1 hz with rfl | ⟨rfl, e⟩
        · exact ⟨_, (arr_sdN h1 (i + k)).2 (.inl rfl), .inl ⟨k + 1, rfl, rfl⟩⟩
        · exact ⟨_, (arr_sdN h1 (i + k)).2 (.inr ⟨rfl, by rw [h k]; exact e⟩), .inr ⟨rfl, rfl⟩⟩
    · refine ⟨fun z hz => ?_, fun z hz => ?_⟩
      · rw [arr_sink] at hz; cases hz
      · rw [arr_sink] at hz; cases hz
/-- a way comes back -/
theorem sd_back (h1 : 1 ≤ B.length) (h2 : A.length + B.length ≤ 10) : cback (sdP A B) 0 = true := by
  have hg := sdP_gr (A := A) h1 h2
  have hr : ∀ i k, Rch (sdP A B) (sdN A B i) (sdN A B (i + k)) := by
    intro i k
    induction k with
    | zero => exact .refl _
    | succ k ih => exact ih.step ((arr_sdN h1 _).2 (.inl rfl))
  rw [cback_iff hg hg.1]
  have h0 := hr 0 A.length
  rw [sdN_zero h1, Nat.zero_add] at h0
  have h3 := hr (A.length + 1) (B.length - 1)
  have e : sdN A B (A.length + 1 + (B.length - 1)) = sdN A B A.length := by
    unfold sdN
    rw [if_neg (by omega), if_neg (by omega), show A.length + 1 + (B.length - 1) - A.length = B.length by omega]
    simp
  rw [e] at h3
  exact ⟨_, _, h0, (arr_sdN h1 _).2 (.inl rfl), h3⟩
end
end Go.Hs
