/- The rounds come to rest: no program in sight. -/
import Derived.Test.YtgphoihilheoeaaDoorHsBis
import Derived.Test.YtgphoihilheoeaaDoorHsRch
set_option linter.unusedVariables false
set_option linter.unusedSimpArgs false
namespace Go.Hs
section
variable {p : List (List Int)} {a b c d n m : Nat}
theorem mch_iff {S : Nat → Nat → Bool} : mch p S a b = true ↔ ∀ k ∈ arr p a, ∃ j ∈ arr p b, S k j = true := by simp [mch, List.all_eq_true, List.any_eq_true]
theorem bsm_succ : bsm p (n + 1) a b = true ↔ bsm p n a b = true ∧ (∀ k ∈ arr p a, ∃ j ∈ arr p b, bsm p n k j = true) ∧ (∀ k ∈ arr p b, ∃ j ∈ arr p a, bsm p n k j = true) := by
  simp only [bsm, Bool.and_eq_true, mch_iff]
theorem bsm_refl : ∀ (n a : Nat), bsm p n a a = true := by
  intro n
  induction n with
  | zero => intro a; rfl
  | succ n ih => intro a; exact bsm_succ.2 ⟨ih a, fun k hk => ⟨k, hk, ih k⟩, fun k hk => ⟨k, hk, ih k⟩⟩
theorem bsm_trans : ∀ (n : Nat) {a b c : Nat}, bsm p n a b = true → bsm p n b c = true → bsm p n a c = true := by
  intro n
  induction n with
  | zero => intro a b c _ _; rfl
  | succ n ih =>
    intro a b c h1 h2
    obtain ⟨h3, h4, h5⟩ := bsm_succ.1 h1
    obtain ⟨h6, h7, h8⟩ := bsm_succ.1 h2
    refine bsm_succ.2 ⟨ih h3 h6, fun k hk => ?_, fun k hk => ?_⟩
    · obtain ⟨j, hj, e⟩ := h4 k hk
      obtain ⟨i, hi, e2⟩ := h7 j hj
      exact ⟨i, hi, ih e e2⟩
    · obtain ⟨j, hj, e⟩ := h8 k hk
      obtain ⟨i, hi, e2⟩ := h5 j hj
      exact ⟨i, hi, ih e e2⟩
/-- the least of those it is not told apart from -/
def ldr (p : List (List Int)) (n a : Nat) : Prop := ∀ b, b < a → bsm p n b a = false
theorem ldr_ex (n : Nat) : ∀ a, ∃ c, c ≤ a ∧ ldr p n c ∧ bsm p n c a = true := by
  intro a
  induction a using Nat.strongRecOn with
  | ind a ih =>
    by_cases h : ldr p n a
    · exact ⟨a, Nat.le_refl _, h, bsm_refl _ _⟩
    · obtain ⟨b, hb⟩ := Classical.not_forall.1 h
      obtain ⟨hb, h2⟩ := Classical.not_imp.1 hb
      obtain ⟨c, hc, h3, h4⟩ := ih b hb
      exact ⟨c, by omega, h3, bsm_trans n h4 (by simpa using h2)⟩
theorem ldr_eq (h1 : ldr p n c) (h2 : ldr p n d) (h : bsm p n c d = true) : c = d := by
  rcases Nat.lt_trichotomy c d with hl | rfl | hl
  · rw [h2 c hl] at h; cases h
  · rfl
  · rw [bsm_sym, h1 d hl] at h; cases h
theorem ldr_up (h : ldr p n a) : ldr p (n + 1) a := fun b hb => by
  cases hc : bsm p (n + 1) b a with
  | false => rfl
  | true => have := bsm_le hc; rw [h b hb] at this; cases this
def stab (p : List (List Int)) (n : Nat) : Prop := ∀ a b, a < p.length → b < p.length → bsm p n a b = true → bsm p (n + 1) a b = true
theorem stab_of (h : ∀ a, a < p.length → ldr p (n + 1) a → ldr p n a) : stab p n := fun a b ha hb hab => by
  obtain ⟨c, hc, hc1, hc2⟩ := ldr_ex (p := p) (n + 1) a
  obtain ⟨d, hd, hd1, hd2⟩ := ldr_ex (p := p) (n + 1) b
  have e : c = d := by
    refine ldr_eq (h c (by omega) hc1) (h d (by omega) hd1) (bsm_trans n (bsm_le hc2) (bsm_trans n hab ?_))
    rw [bsm_sym]; exact bsm_le hd2
  subst e
  refine bsm_trans (n + 1) ?_ hd2
  rw [bsm_sym]; exact hc2
theorem arr_lt (hp : Gr p) (ha : a < p.length) (h : b ∈ arr p a) : b < p.length := ((mem_arr hp ha).1 h).1
theorem stab_succ (hp : Gr p) (h : stab p n) : stab p (n + 1) := fun a b ha hb hab => by
  obtain ⟨h1, h2, h3⟩ := bsm_succ.1 hab
  refine bsm_succ.2 ⟨hab, fun k hk => ?_, fun k hk => ?_⟩
  · obtain ⟨j, hj, e⟩ := h2 k hk
    exact ⟨j, hj, h _ _ (arr_lt hp ha hk) (arr_lt hp hb hj) e⟩
  · obtain ⟨j, hj, e⟩ := h3 k hk
    exact ⟨j, hj, h _ _ (arr_lt hp hb hk) (arr_lt hp ha hj) e⟩
theorem stab_or (hp : Gr p) : ∀ n, stab p n ∨ n + 1 < cnt (ldr p (n + 1)) p.length := by
  have key : ∀ n, stab p n ∨ cnt (ldr p n) p.length < cnt (ldr p (n + 1)) p.length := fun n => by
    by_cases h : ∀ a, a < p.length → ldr p (n + 1) a → ldr p n a
    · exact .inl (stab_of h)
    · right
      obtain ⟨a, ha⟩ := Classical.not_forall.1 h
      obtain ⟨ha, h2⟩ := Classical.not_imp.1 ha
      obtain ⟨h2, h3⟩ := Classical.not_imp.1 h2
      exact cnt_lt (fun j _ hj => ldr_up hj) ha h2 h3
  intro n
  induction n with
  | zero =>
    rcases key 0 with h | h
    · exact .inl h
    · have := cnt_pos (P := ldr p 0) (k := 0) (n := p.length) (by have := hp.1; omega) (fun b hb => by omega)
      right; omega
  | succ n ih =>
    rcases ih with h | h
    · exact .inl (stab_succ hp h)
    · rcases key (n + 1) with h2 | h2
      · exact .inl h2
      · right; omega
theorem stab_len (hp : Gr p) (h : p.length ≤ n + 1) : stab p n := by
  rcases stab_or hp n with h1 | h1
  · exact h1
  · have := cnt_le (ldr p (n + 1)) p.length; omega
theorem bsm_up (hp : Gr p) (ha : a < p.length) (hb : b < p.length) (h : p.length ≤ n + 1) (hab : bsm p n a b = true) (m : Nat) : bsm p m a b = true := by
  by_cases hm : m ≤ n
  · exact bsm_mono hm hab
  · obtain ⟨k, rfl⟩ : ∃ k, m = n + k := ⟨m - n, by omega⟩
    clear hm
    induction k with
    | zero => exact hab
    | succ k ih => exact stab_len (n := n + k) hp (by omega) _ _ ha hb ih
end
end Go.Hs
