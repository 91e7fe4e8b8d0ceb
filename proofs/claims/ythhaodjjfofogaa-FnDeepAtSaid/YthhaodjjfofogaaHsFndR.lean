/- Founded by as many steps as there are nodes is founded: no program in sight. -/
import Derived.Test.YthhaodjjfofogaaHsFnd
import Derived.Test.YthhaodjjfofogaaHsRch
set_option linter.unusedVariables false
namespace Go.Hs
section
variable {p : List (List Int)} {i j k n m : Nat}
theorem fnd_succ : fnd p (n + 1) k = true ↔ ∀ j ∈ arr p k, fnd p n j = true := by
  show fstep p (fnd p n) k = true ↔ _
  unfold fstep
  rw [Bool.not_eq_true', List.any_eq_false]
  simp
theorem fnd_mono1 : ∀ (n k : Nat), fnd p n k = true → fnd p (n + 1) k = true := by
  intro n
  induction n with
  | zero => intro k h; cases h
  | succ n ih => intro k h; exact fnd_succ.2 fun j hj => ih j (fnd_succ.1 h j hj)
theorem fnd_mono (h : n ≤ m) (hk : fnd p n k = true) : fnd p m k = true := by
  obtain ⟨d, rfl⟩ : ∃ d, m = n + d := ⟨m - n, by omega⟩
  clear h
  induction d with
  | zero => exact hk
  | succ d ih => exact fnd_mono1 _ _ ih
theorem fnd_cback (hp : Pic p) : ∀ (n k : Nat), k < p.length → fnd p n k = true → cback p k = false := by
  intro n
  induction n with
  | zero => intro k _ h; cases h
  | succ n ih =>
    intro k hk h
    cases hc : cback p k with
    | false => rfl
    | true =>
      obtain ⟨j, hj, h2⟩ := (cback_step hp hk).1 hc
      rw [ih j ((mem_arr hp hk).1 hj).1 (fnd_succ.1 h j hj)] at h2; cases h2
theorem cback_arr (hp : Pic p) (hk : k < p.length) (h : cback p k = false) (hj : j ∈ arr p k) : cback p j = false := by
  cases hc : cback p j with
  | false => rfl
  | true => rw [(cback_step hp hk).2 ⟨j, hj, hc⟩] at h; cases h
/-- what follows reaches less -/
theorem rf_lt (hp : Pic p) (hk : k < p.length) (h : cback p k = false) (hj : j ∈ arr p k) : (rf p j).length < (rf p k).length := by
  have hjl := ((mem_arr hp hk).1 hj).1
  have hn := pw_nodup (range_filter_pw (rch p j) p.length)
  have hnk : k ∉ rf p j := fun hm => by
    rw [(cback_iff hp hk).2 ⟨k, j, .refl _, hj, (mem_rf hp hjl).1 hm⟩] at h; cases h
  have := List.Nodup.length_le_of_subset (l₁ := k :: rf p j) (l₂ := rf p k) (List.nodup_cons.2 ⟨hnk, hn⟩) (fun x hx => by
    rcases List.mem_cons.1 hx with rfl | hx
    · exact (mem_rf hp hk).2 (.refl _)
    · exact (mem_rf hp hk).2 (Rch.head hj ((mem_rf hp hjl).1 hx)))
  rw [List.length_cons] at this; omega
theorem cback_fnd (hp : Pic p) : ∀ (n k : Nat), k < p.length → (rf p k).length ≤ n → cback p k = false → fnd p n k = true := by
  intro n
  induction n with
  | zero =>
    intro k hk h _
    have hm := (mem_rf hp hk).2 (.refl k)
    rw [List.length_eq_zero_iff.1 (Nat.le_zero.1 h)] at hm; cases hm
  | succ n ih =>
    intro k hk h hc
    refine fnd_succ.2 fun j hj => ih j ((mem_arr hp hk).1 hj).1 ?_ (cback_arr hp hk hc hj)
    have := rf_lt hp hk hc hj; omega
theorem fnd_len (hp : Pic p) (hk : k < p.length) : fnd p p.length k = !cback p k := by
  cases hc : cback p k with
  | false => exact cback_fnd hp _ _ hk rf_len hc
  | true =>
    cases hf : fnd p p.length k with
    | false => rfl
    | true => rw [fnd_cback hp _ _ hk hf] at hc; cases hc

/-- how long the longest way is, with so much to spend -/
def dpt (p : List (List Int)) : Nat → Nat → Nat
  | 0, _ => 0
  | r + 1, k => (arr p k).foldl (fun n j => max n (dpt p r j + 1)) 0
theorem fold_lt (g : Nat → Nat) (n : Nat) : ∀ (l : List Nat) (a : Nat), l.foldl (fun n j => max n (g j + 1)) a < n + 1 ↔ a < n + 1 ∧ ∀ j ∈ l, g j < n := by
  intro l
  induction l with
  | nil => intro a; simp
  | cons x xs ih =>
    intro a
    rw [List.foldl_cons, ih]
    simp only [List.mem_cons, forall_eq_or_imp]
    constructor
    · rintro ⟨h1, h2⟩; exact ⟨by omega, by omega, h2⟩
    · rintro ⟨h1, h2, h3⟩; exact ⟨by omega, h3⟩
theorem dpt_fnd (hp : Pic p) : ∀ (r k : Nat), k < p.length → (rf p k).length ≤ r → cback p k = false → ∀ n, fnd p n k = true ↔ dpt p r k < n := by
  intro r
  induction r with
  | zero =>
    intro k hk h _
    have hm := (mem_rf hp hk).2 (.refl k)
    rw [List.length_eq_zero_iff.1 (Nat.le_zero.1 h)] at hm; cases hm
  | succ r ih =>
    intro k hk h hc n
    cases n with
    | zero => exact ⟨fun h => (by cases h), fun h => (by omega)⟩
    | succ n =>
      rw [fnd_succ]
      show _ ↔ (arr p k).foldl (fun n j => max n (dpt p r j + 1)) 0 < n + 1
      rw [fold_lt]
      have key : ∀ j ∈ arr p k, (fnd p n j = true ↔ dpt p r j < n) := fun j hj => by
        have := rf_lt hp hk hc hj
        exact ih j ((mem_arr hp hk).1 hj).1 (by omega) (cback_arr hp hk hc hj) n
      exact ⟨fun h => ⟨by omega, fun j hj => (key j hj).1 (h j hj)⟩, fun h j hj => (key j hj).2 (h.2 j hj)⟩
theorem dpt_lt (hp : Pic p) {r : Nat} (hk : k < p.length) (h : (rf p k).length ≤ r) (hc : cback p k = false) : dpt p r k < p.length := by
  rw [← dpt_fnd hp r k hk h hc, fnd_len hp hk, hc]; rfl
theorem dpt_eq (hp : Pic p) {r s : Nat} (hk : k < p.length) (h : (rf p k).length ≤ r) (h' : (rf p k).length ≤ s) (hc : cback p k = false) : dpt p r k = dpt p s k := by
  have h1 := dpt_fnd hp r k hk h hc (dpt p s k)
  have h2 := dpt_fnd hp s k hk h' hc (dpt p r k)
  have h3 := dpt_fnd hp s k hk h' hc (dpt p s k)
  have h4 := dpt_fnd hp r k hk h hc (dpt p r k)
  rcases Nat.lt_trichotomy (dpt p r k) (dpt p s k) with h | h | h
  · have := h3.1 (h1.2 h); omega
  · exact h
  · have := h4.1 (h2.2 h); omega
end
end Go.Hs
