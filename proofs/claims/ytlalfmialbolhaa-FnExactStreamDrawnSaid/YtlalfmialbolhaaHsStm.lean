/- Streams as sequences, and how they are told shortest: no program in sight. -/
set_option linter.unusedVariables false
namespace Go.Hs
/-- a stream: at most so many bits, at least one that comes again -/
def Stm (A B : List Int) : Prop := (∀ x ∈ A, x = 0 ∨ x = 1) ∧ (∀ x ∈ B, x = 0 ∨ x = 1) ∧ 1 ≤ B.length ∧ A.length + B.length ≤ 12
instance (A B : List Int) : Decidable (Stm A B) := by unfold Stm; exact inferInstance
/-- the bit at a place -/
def bat (A B : List Int) (k : Nat) : Int := if k < A.length then A.getD k 0 else B.getD ((k - A.length) % B.length) 0
/-- from a on, it comes again after p places -/
def Per (f : Nat → Int) (a p : Nat) : Prop := 1 ≤ p ∧ ∀ n, a ≤ n → f (n + p) = f n
section
variable {f g : Nat → Int} {a b p q m n k : Nat} {A B : List Int}
theorem Per.mul (h : Per f a p) : ∀ k n, a ≤ n → f (n + p * k) = f n := by
  intro k
  induction k with
  | zero => intro n _; rfl
  | succ k ih =>
    intro n hn
    rw [Nat.mul_succ, ← Nat.add_assoc, h.2 _ (by omega), ih n hn]
theorem Per.mod (h : Per f a p) (hn : a ≤ n) : f n = f (a + (n - a) % p) := by
  have e : n = a + (n - a) % p + p * ((n - a) / p) := by have := Nat.mod_add_div (n - a) p; omega
  have := h.mul ((n - a) / p) (a + (n - a) % p) (by omega)
  rw [← e] at this; exact this
theorem Per.up (h : Per f a p) (hb : a ≤ b) : Per f b p := ⟨h.1, fun n hn => h.2 n (by omega)⟩
theorem Per.times (h : Per f a p) (hk : 1 ≤ k) : Per f a (p * k) := ⟨Nat.mul_pos h.1 hk, fun n hn => h.mul k n hn⟩
theorem Per.down (h : Per f a p) (h2 : Per f m q) : Per f a q := by
  refine ⟨h2.1, fun n hn => ?_⟩
  have h3 : m ≤ n + p * m := by have := Nat.le_mul_of_pos_left m h.1; omega
  rw [← h.mul m (n + q) (by omega), ← h.mul m n hn, show n + q + p * m = n + p * m + q by omega]
  exact h2.2 _ h3
theorem Per.rem (h : Per f a p) (h2 : Per f a q) (hr : q % p ≠ 0) : Per f a (q % p) := by
  refine ⟨by omega, fun n hn => ?_⟩
  rw [← h.mul (q / p) (n + q % p) (by omega), show n + q % p + p * (q / p) = n + q by have := Nat.mod_add_div q p; omega]
  exact h2.2 n hn
/-- told shortest -/
def IsSh (f : Nat → Int) (a p : Nat) : Prop := Per f a p ∧ ∀ b q, Per f b q → a ≤ b ∧ p ≤ q
theorem IsSh.uniq (h : IsSh f a p) (h2 : IsSh f b q) : a = b ∧ p = q := by
  have h3 := h.2 _ _ h2.1
  have h4 := h2.2 _ _ h.1
  omega
theorem IsSh.dvd (h : IsSh f a p) (h2 : Per f b q) : q % p = 0 := by
  rcases Nat.eq_zero_or_pos (q % p) with h3 | h3
  · exact h3
  · have h4 := (h.1.up (Nat.le_max_left a b)).rem (h2.up (Nat.le_max_right a b)) (by omega)
    have h5 := (h.2 _ _ h4).2
    have := Nat.mod_lt q h.1.1
    omega
open Classical in
theorem least {P : Nat → Prop} (h : ∃ n, P n) : ∃ n, P n ∧ ∀ m, P m → n ≤ m := by
  obtain ⟨n, hn⟩ := h
  induction n using Nat.strongRecOn with
  | ind n ih =>
    by_cases h : ∃ m, m < n ∧ P m
    · obtain ⟨m, hm, hp⟩ := h
      exact ih m hm hp
    · exact ⟨n, hn, fun m hm => Nat.le_of_not_lt fun hl => h ⟨m, hl, hm⟩⟩
theorem IsSh.ex (h : Per f a p) : ∃ b q, IsSh f b q := by
  obtain ⟨q, hq, hq2⟩ := least (P := fun q => Per f a q) ⟨p, h⟩
  obtain ⟨b, hb, hb2⟩ := least (P := fun b => Per f b q) ⟨a, hq⟩
  exact ⟨b, q, hb, fun c r hr => ⟨hb2 c (hr.down hq), hq2 r (hq.down hr)⟩⟩
open Classical in
noncomputable def shA (f : Nat → Int) : Nat := if h : ∃ a p, IsSh f a p then choose h else 0
open Classical in
noncomputable def shP (f : Nat → Int) : Nat := if h : ∃ p, IsSh f (shA f) p then choose h else 0
theorem IsSh.eq (h : IsSh f a p) : shA f = a ∧ shP f = p := by
  have hx : ∃ a p, IsSh f a p := ⟨a, p, h⟩
  have h1 : ∃ p, IsSh f (shA f) p := by
    unfold shA
    rw [dif_pos hx]
    exact Classical.choose_spec hx
  have h2 : IsSh f (shA f) (shP f) := by
    unfold shP
    rw [dif_pos h1]
    exact Classical.choose_spec h1
  exact h2.uniq h
/-- so many places from one on -/
def win (f : Nat → Int) (a p : Nat) : List Int := (List.range p).map fun i => f (a + i)
theorem win_len : (win f a p).length = p := by simp [win]
theorem win_at (h : k < p) : (win f a p)[k]'(by rw [win_len]; exact h) = f (a + k) := by simp [win]
theorem win_succ : win f a (p + 1) = win f a p ++ [f (a + p)] := by unfold win; rw [List.range_succ, List.map_append]; rfl
theorem win_cons : win f a (p + 1) = f a :: win f (a + 1) p := by
  unfold win
  rw [List.range_succ_eq_map, List.map_cons, List.map_map]
  simp only [Nat.add_zero]
  congr 1
  apply List.map_congr_left
  intro i _
  show f (a + (i + 1)) = f (a + 1 + i)
  rw [show a + (i + 1) = a + 1 + i by omega]
theorem win_take (h : k ≤ p) : (win f a p).take k = win f a k := by
  unfold win
  rw [← List.map_take, List.take_range, Nat.min_eq_left h]
noncomputable def shL (f : Nat → Int) : List Int := win f 0 (shA f)
noncomputable def shR (f : Nat → Int) : List Int := win f (shA f) (shP f)
/-- a stream as a sequence -/
theorem bat_ahead (h : k < A.length) : bat A B k = A[k] := by unfold bat; rw [if_pos h]; simp [h]
theorem bat_again (hB : 1 ≤ B.length) (h : k < B.length) : bat A B (A.length + k) = B[k] := by
  unfold bat
  rw [if_neg (by omega), Nat.add_sub_cancel_left, Nat.mod_eq_of_lt h]; simp [h]
theorem per_bat (hB : 1 ≤ B.length) : Per (bat A B) A.length B.length := by
  refine ⟨hB, fun n hn => ?_⟩
  unfold bat
  rw [if_neg (by omega), if_neg (by omega), show n + B.length - A.length = n - A.length + B.length by omega, Nat.add_mod_right]
theorem win_bat0 : win (bat A B) 0 A.length = A := by
  refine List.ext_getElem win_len fun k h1 h2 => ?_
  rw [win_at h2, Nat.zero_add, bat_ahead h2]
theorem win_bat (hB : 1 ≤ B.length) : win (bat A B) A.length B.length = B := by
  refine List.ext_getElem win_len fun k h1 h2 => ?_
  rw [win_at h2, bat_again hB h2]
/-- a sequence told by its beginning and what comes again -/
theorem bat_win (h : Per f a p) : bat (win f 0 a) (win f a p) = f := by
  funext k
  by_cases hk : k < a
  · rw [bat_ahead (by rw [win_len]; exact hk), win_at hk, Nat.zero_add]
  · have hm : (k - a) % p < p := Nat.mod_lt _ h.1
    unfold bat
    rw [win_len, win_len, if_neg hk, h.mod (by omega : a ≤ k), List.getD_eq_getElem?_getD, List.getElem?_eq_getElem (by rw [win_len]; exact hm), Option.getD_some, win_at hm]
theorem per_iff (hp : 1 ≤ p) : bat (win f 0 a) (win f a p) = f ↔ Per f a p := by
  refine ⟨fun h => ?_, bat_win⟩
  have := per_bat (A := win f 0 a) (B := win f a p) (by rw [win_len]; exact hp)
  rw [h, win_len, win_len] at this; exact this
/-- two streams that agree for so long agree for ever -/
theorem agree (h : Per f a p) (h2 : Per g b q) (ha : a ≤ 12) (hb : b ≤ 12) (hp : p ≤ 12) (hq : q ≤ 12) (he : ∀ k, k < 156 → f k = g k) : f = g := by
  funext n
  by_cases hn : n < 156
  · exact he n hn
  · have h3 : Per f 12 (p * q) := (h.up ha).times h2.1
    have h4 : Per g 12 (p * q) := by have := (h2.up hb).times h.1; rw [Nat.mul_comm] at this; exact this
    have h5 : p * q ≤ 12 * 12 := Nat.mul_le_mul hp hq
    have h6 : (n - 12) % (p * q) < p * q := Nat.mod_lt _ h3.1
    rw [h3.mod (by omega : 12 ≤ n), h4.mod (by omega : 12 ≤ n)]
    exact he _ (by omega)
theorem Stm.per (h : Stm A B) : Per (bat A B) A.length B.length := per_bat h.2.2.1
theorem Stm.sh (h : Stm A B) : IsSh (bat A B) (shA (bat A B)) (shP (bat A B)) := by
  obtain ⟨a, p, hs⟩ := IsSh.ex h.per
  obtain ⟨e1, e2⟩ := hs.eq
  rw [e1, e2]; exact hs
theorem Stm.bit (h : Stm A B) (k : Nat) : bat A B k = 0 ∨ bat A B k = 1 := by
  by_cases hk : k < A.length
  · rw [bat_ahead hk]; exact h.1 _ (List.getElem_mem hk)
  · have hm : (k - A.length) % B.length < B.length := Nat.mod_lt _ h.2.2.1
    unfold bat
    rw [if_neg hk, List.getD_eq_getElem?_getD, List.getElem?_eq_getElem hm, Option.getD_some]
    exact h.2.1 _ (List.getElem_mem hm)
theorem stm_win (hf : ∀ k, f k = 0 ∨ f k = 1) (hp : 1 ≤ p) (h : a + p ≤ 12) : Stm (win f 0 a) (win f a p) := by
  refine ⟨fun x hx => ?_, fun x hx => ?_, by rw [win_len]; exact hp, by rw [win_len, win_len]; exact h⟩
  · simp only [win, List.mem_map] at hx
    obtain ⟨i, _, rfl⟩ := hx; exact hf _
  · simp only [win, List.mem_map] at hx
    obtain ⟨i, _, rfl⟩ := hx; exact hf _
theorem same_iff {A' B' : List Int} (h : Stm A B) (h' : Stm A' B') : (∀ k, k < 156 → bat A B k = bat A' B' k) ↔ bat A B = bat A' B' := by
  have h1 := h.2.2
  have h2 := h'.2.2
  exact ⟨agree h.per h'.per (by omega) (by omega) (by omega) (by omega), fun e k _ => by rw [e]⟩
theorem Stm.short (h : Stm A B) : shA (bat A B) ≤ A.length ∧ shP (bat A B) ≤ B.length ∧ 1 ≤ shP (bat A B) := by
  have h1 := h.sh
  have h2 := h1.2 _ _ h.per
  exact ⟨h2.1, h2.2, h1.1.1⟩
theorem Stm.short_stm (h : Stm A B) : Stm (shL (bat A B)) (shR (bat A B)) := by
  obtain ⟨h1, h2, h3⟩ := h.short
  exact stm_win h.bit h3 (by have := h.2.2; omega)
theorem Stm.short_bat (h : Stm A B) : bat (shL (bat A B)) (shR (bat A B)) = bat A B := bat_win h.sh.1
/-- the test of the clever way, up to the least number after which it comes again -/
theorem test_iff {L : Nat} (h : Per f a L) (hm : ∀ q, Per f a q → p ≤ q) (hp : Per f a p) (hn : 1 ≤ n) (hnp : n ≤ p) (hnL : n < L) :
    (L % n = 0 ∧ win f (a + n) (L - n) = win f a (L - n)) ↔ n = p := by
  constructor
  · rintro ⟨h1, h2⟩
    have h3 : ∀ i, i + n < L → f (a + i + n) = f (a + i) := fun i hi => by
      have h4 : (win f (a + n) (L - n))[i]'(by rw [win_len]; omega) = (win f a (L - n))[i]'(by rw [win_len]; omega) := by simp only [h2]
      rw [win_at (by omega), win_at (by omega)] at h4
      rw [show a + i + n = a + n + i by omega]; exact h4
    have h5 : ∀ c i, i + n * c < L → f (a + i + n * c) = f (a + i) := by
      intro c
      induction c with
      | zero => intro i _; rfl
      | succ c ih =>
        intro i hi
        rw [Nat.mul_succ] at hi ⊢
        have := h3 (i + n * c) (by omega)
        rw [show a + i + (n * c + n) = a + (i + n * c) + n by omega, this, show a + (i + n * c) = a + i + n * c by omega]
        exact ih i (by omega)
    have h6 : Per f a n := by
      refine ⟨hn, fun k hk => ?_⟩
      obtain ⟨c, hc⟩ : ∃ c, L = n * c := ⟨L / n, by have := Nat.mod_add_div L n; omega⟩
      have hL : 0 < L := by omega
      have hi : (k - a) % L < L := Nat.mod_lt _ hL
      rw [h.mod hk]
      by_cases hlt : (k - a) % L + n < L
      · rw [h.mod (by omega : a ≤ k + n), show k + n - a = k - a + n by omega, Nat.add_mod, Nat.mod_eq_of_lt hnL, Nat.mod_eq_of_lt hlt]
        have := h3 ((k - a) % L) hlt
        rw [show a + ((k - a) % L + n) = a + (k - a) % L + n by omega]; exact this
      · have e1 : (k + n - a) % L = (k - a) % L + n - L := by
          rw [show k + n - a = k - a + n by omega, Nat.add_mod, Nat.mod_eq_of_lt hnL, Nat.mod_eq_sub_mod (by omega), Nat.mod_eq_of_lt (by omega)]
        rw [h.mod (by omega : a ≤ k + n), e1]
        obtain ⟨c, rfl⟩ : ∃ c', c = c' + 1 := ⟨c - 1, by
          rcases c with _ | c
          · simp at hc; omega
          · omega⟩
        rw [Nat.mul_succ] at hc
        have := h5 c ((k - a) % L + n - L) (by omega)
        rw [show a + ((k - a) % L + n - L) + n * c = a + (k - a) % L by omega] at this
        exact this.symm
    exact Nat.le_antisymm hnp (hm n h6)
  · rintro rfl
    refine ⟨?_, ?_⟩
    · rcases Nat.eq_zero_or_pos (L % n) with h3 | h3
      · exact h3
      · have h4 := hm _ (hp.rem h (by omega))
        have := Nat.mod_lt L hp.1
        omega
    · unfold win
      apply List.map_congr_left
      intro i _
      rw [show a + n + i = a + i + n by omega]
      exact hp.2 _ (by omega)
/-- one place less ahead -/
theorem per_pred (h : Per f (a + 1) p) : Per f a p ↔ f a = f (a + p) := by
  refine ⟨fun h2 => (h2.2 a (Nat.le_refl _)).symm, fun e => ⟨h.1, fun n hn => ?_⟩⟩
  by_cases hna : n = a
  · subst hna; exact e.symm
  · exact h.2 n (by omega)
end
end Go.Hs
