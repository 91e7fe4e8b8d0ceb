/- What is reached in a picture: no program in sight. -/
import Derived.Test.YtgphoihilheoeaaDoorHsPic
set_option linter.unusedVariables false
namespace Go.Hs
open Classical

inductive Rch (p : List (List Int)) : Nat → Nat → Prop
  | refl (i : Nat) : Rch p i i
  | step {i k j : Nat} : Rch p i k → j ∈ arr p k → Rch p i j

section
variable {p : List (List Int)} {i j k n : Nat}
theorem Rch.trans (h : Rch p i k) (h2 : Rch p k j) : Rch p i j := by
  induction h2 with
  | refl => exact h
  | step _ hj ih => exact ih.step hj
theorem Rch.head (h : k ∈ arr p i) (h2 : Rch p k j) : Rch p i j := ((Rch.refl i).step h).trans h2
theorem Rch.heads (h : Rch p i j) : i = j ∨ ∃ k ∈ arr p i, Rch p k j := by
  induction h with
  | refl => exact .inl rfl
  | step h hj ih =>
    rcases ih with rfl | ⟨k', h1, h2⟩
    · exact .inr ⟨_, hj, .refl _⟩
    · exact .inr ⟨k', h1, h2.step hj⟩
theorem Rch.lt (hp : Gr p) (hi : i < p.length) (h : Rch p i j) : j < p.length := by
  induction h with
  | refl => exact hi
  | step h hj ih => exact ((mem_arr hp ih).1 hj).1

/-- how many below n -/
noncomputable def cnt (P : Nat → Prop) : Nat → Nat
  | 0 => 0
  | n + 1 => cnt P n + if P n then 1 else 0
theorem cnt_le (P : Nat → Prop) (n : Nat) : cnt P n ≤ n := by
  induction n with
  | zero => exact Nat.le_refl _
  | succ n ih => simp only [cnt]; split <;> omega
theorem cnt_mono {P Q : Nat → Prop} (h : ∀ j, j < n → P j → Q j) : cnt P n ≤ cnt Q n := by
  induction n with
  | zero => exact Nat.le_refl _
  | succ n ih =>
    have := ih fun j hj => h j (by omega)
    have h2 := h n (by omega)
    simp only [cnt]
    split <;> split <;> first | omega | (exfalso; simp_all)
theorem cnt_lt {P Q : Nat → Prop} (h : ∀ j, j < n → P j → Q j) (hk : k < n) (h1 : Q k) (h2 : ¬ P k) : cnt P n < cnt Q n := by
  induction n with
  | zero => omega
  | succ n ih =>
    simp only [cnt]
    by_cases e : k = n
    · subst e
      have := cnt_mono (n := k) fun j hj => h j (by omega)
      rw [if_neg h2, if_pos h1]; omega
    · have := ih (fun j hj => h j (by omega)) (by omega)
      have h3 := h n (by omega)
      split <;> split <;> first | omega | (exfalso; simp_all)
theorem cnt_pos {P : Nat → Prop} (hk : k < n) (h1 : P k) : 1 ≤ cnt P n := by
  have := cnt_lt (n := n) (P := fun _ => False) (Q := P) (fun _ _ h => h.elim) hk h1 id
  omega

/-- what is reached within r steps -/
def st (p : List (List Int)) (i : Nat) : Nat → Nat → Prop
  | 0, j => j = i
  | r + 1, j => st p i r j ∨ ∃ k, st p i r k ∧ j ∈ arr p k
theorem st_rch {r : Nat} (h : st p i r j) : Rch p i j := by
  induction r generalizing j with
  | zero => cases h; exact .refl _
  | succ r ih =>
    rcases h with h | ⟨k, h1, h2⟩
    · exact ih h
    · exact (ih h1).step h2
theorem st_self (r : Nat) : st p i r i := by
  induction r with
  | zero => rfl
  | succ r ih => exact .inl ih
theorem st_stable (hp : Gr p) (hi : i < p.length) (r : Nat) : (∀ j, st p i (r + 1) j → st p i r j) ∨ r + 1 ≤ cnt (st p i r) p.length := by
  induction r with
  | zero => exact .inr (cnt_pos hi rfl)
  | succ r ih =>
    by_cases hs : ∀ j, st p i (r + 1) j → st p i r j
    · left
      intro j hj
      rcases hj with h | ⟨k, h1, h2⟩
      · exact h
      · exact .inr ⟨k, hs k h1, h2⟩
    · right
      rcases ih with h | h
      · exact absurd h hs
      · obtain ⟨k, hk⟩ := Classical.not_forall.1 hs
        obtain ⟨hk1, hk2⟩ := Classical.not_imp.1 hk
        have := cnt_lt (P := st p i r) (Q := st p i (r + 1)) (fun j _ h => .inl h) ((st_rch hk1).lt hp hi) hk1 hk2
        omega
theorem rch_st (hp : Gr p) (hi : i < p.length) (h : Rch p i j) : st p i p.length j := by
  have hs : ∀ j, st p i (p.length + 1) j → st p i p.length j := by
    rcases st_stable hp hi p.length with h | h
    · exact h
    · have := cnt_le (st p i p.length) p.length; omega
  induction h with
  | refl => exact st_self _
  | step h hj ih => exact hs _ (.inr ⟨_, ih, hj⟩)

/-- what i reaches, in order -/
noncomputable def rch (p : List (List Int)) (i j : Nat) : Bool := decide (Rch p i j)
theorem rch_iff : rch p i j = true ↔ Rch p i j := decide_eq_true_iff
noncomputable def rf (p : List (List Int)) (i : Nat) : List Nat := (List.range p.length).filter (rch p i)
theorem mem_rf (hp : Gr p) (hi : i < p.length) : j ∈ rf p i ↔ Rch p i j := by
  simp only [rf, List.mem_filter, List.mem_range, rch_iff]
  exact ⟨fun h => h.2, fun h => ⟨h.lt hp hi, h⟩⟩
theorem rf_len : (rf p i).length ≤ p.length := Nat.le_trans (List.length_filter_le _ _) (by simp)
noncomputable def sortI (xs : List Int) : List Int := xs.mergeSort fun x y => decide (x ≤ y)
theorem sortI_len (xs : List Int) : (sortI xs).length = xs.length := by unfold sortI; simp
theorem sortI_eq {xs ys : List Int} (h : xs.Perm ys) (hs : ys.Pairwise (· ≤ ·)) : sortI xs = ys := by
  refine List.Perm.eq_of_pairwise (le := (· ≤ ·)) (fun a b _ _ h1 h2 => Int.le_antisymm h1 h2) ?_ hs ((List.mergeSort_perm _ _).trans h)
  refine (List.pairwise_mergeSort (fun a b c h1 h2 => ?_) (fun a b => ?_) xs).imp (fun h => by simpa using h)
  · simp only [decide_eq_true_eq] at *; omega
  · simp only [Bool.or_eq_true, decide_eq_true_eq]; omega
theorem ints_mono {l : List Nat} (h : l.Pairwise (· < ·)) : (ints l).Pairwise (· ≤ ·) := by
  unfold ints
  rw [List.pairwise_map]
  exact h.imp (fun h => by omega)
theorem mem_ints {l : List Nat} {x : Nat} : (x : Int) ∈ ints l ↔ x ∈ l := by
  unfold ints
  rw [List.mem_map]
  exact ⟨fun ⟨y, h1, h2⟩ => by rw [show x = y by omega]; exact h1, fun h => ⟨x, h, rfl⟩⟩
theorem contains_ints {l : List Nat} {x : Nat} : decide ((x : Int) ∈ ints l) = l.contains x := by
  rw [Bool.eq_iff_iff, decide_eq_true_iff, mem_ints, List.contains_iff_mem]
theorem ints_get {l : List Nat} {k : Nat} (h : k < l.length) : (ints l)[k]'(by rw [ints_len]; exact h) = ((l[k] : Nat) : Int) := by simp [ints]
theorem range_filter_pw (f : Nat → Bool) (n : Nat) : ((List.range n).filter f).Pairwise (· < ·) := List.pairwise_lt_range.filter f
theorem pw_nodup {l : List Nat} (h : l.Pairwise (· < ·)) : l.Nodup := h.imp (fun h => by omega)
/-- A list that holds i, only what i reaches, each once, and is closed under arrows: sorted it is all that i reaches. -/
theorem bfs (hp : Gr p) (hi : i < p.length) {l : List Nat} (hn : l.Nodup) (h0 : i ∈ l) (hs : ∀ j ∈ l, Rch p i j) (hc : ∀ k ∈ l, ∀ j ∈ arr p k, j ∈ l) : sortI (ints l) = ints (rf p i) := by
  refine sortI_eq ?_ (ints_mono (range_filter_pw _ _))
  refine List.Perm.map _ ((List.perm_ext_iff_of_nodup hn (pw_nodup (range_filter_pw _ _))).2 fun j => ?_)
  rw [show (j ∈ (List.range p.length).filter (rch p i)) ↔ Rch p i j from mem_rf hp hi]
  refine ⟨hs j, fun h => ?_⟩
  induction h with
  | refl => exact h0
  | step h hj ih => exact hc _ ih _ hj
theorem nodup_len {l : List Nat} (hn : l.Nodup) (hl : ∀ j ∈ l, j < n) : l.length ≤ n := by
  have h := List.Nodup.length_le_of_subset hn (l₂ := List.range n) (fun j hj => List.mem_range.2 (hl j hj))
  simpa using h
noncomputable def onl (p : List (List Int)) (u : Nat) : Bool := (arr p u).any fun v => (rf p v).contains u
/-- k comes back: it reaches a node on a loop -/
noncomputable def cback (p : List (List Int)) (i : Nat) : Bool := (rf p i).any (onl p)
theorem cback_iff (hp : Gr p) (hi : i < p.length) : cback p i = true ↔ ∃ u v, Rch p i u ∧ v ∈ arr p u ∧ Rch p v u := by
  unfold cback onl
  simp only [List.any_eq_true, List.contains_iff_mem]
  constructor
  · rintro ⟨u, h1, v, h2, h3⟩
    have h4 := (mem_rf hp hi).1 h1
    have hv : v < p.length := ((mem_arr hp (h4.lt hp hi)).1 h2).1
    exact ⟨u, v, h4, h2, (mem_rf hp hv).1 h3⟩
  · rintro ⟨u, v, h1, h2, h3⟩
    have hv : v < p.length := ((mem_arr hp (h1.lt hp hi)).1 h2).1
    exact ⟨u, (mem_rf hp hi).2 h1, v, h2, (mem_rf hp hv).2 h3⟩
theorem cback_step (hp : Gr p) (hi : i < p.length) : cback p i = true ↔ ∃ j ∈ arr p i, cback p j = true := by
  rw [cback_iff hp hi]
  constructor
  · rintro ⟨u, v, h1, h2, h3⟩
    rcases h1.heads with rfl | ⟨k, hk, h4⟩
    · refine ⟨v, h2, (cback_iff hp ((mem_arr hp hi).1 h2).1).2 ⟨i, v, h3, h2, h3⟩⟩
    · exact ⟨k, hk, (cback_iff hp ((mem_arr hp hi).1 hk).1).2 ⟨u, v, h4, h2, h3⟩⟩
  · rintro ⟨j, hj, h⟩
    obtain ⟨u, v, h1, h2, h3⟩ := (cback_iff hp ((mem_arr hp hi).1 hj).1).1 h
    exact ⟨u, v, h1.head hj, h2, h3⟩
end
end Go.Hs
