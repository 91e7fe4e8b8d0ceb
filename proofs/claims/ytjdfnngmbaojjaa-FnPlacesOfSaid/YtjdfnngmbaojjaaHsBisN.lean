/- The rounds come to rest, formulas do not tell apart what is left, and the texts that tell apart: no program in sight. -/
import Derived.Test.YtjdfnngmbaojjaaHsBis
import Derived.Test.YtjdfnngmbaojjaaHsFmP
import Derived.Test.YtjdfnngmbaojjaaHsRch
set_option linter.unusedVariables false
set_option linter.unusedSimpArgs false
namespace Go.Hs
section
variable {p : List (List Int)} {a b c d n m : Nat}
theorem mch_iff {S : Nat → Nat → Bool} : mch p S a b = true ↔ ∀ k ∈ arr p a, ∃ j ∈ arr p b, S k j = true := by simp [mch, List.all_eq_true, List.any_eq_true]
theorem bsm_succ : bsm p (n + 1) a b = true ↔ bsm p n a b = true ∧ (∀ k ∈ arr p a, ∃ j ∈ arr p b, bsm p n k j = true) ∧ (∀ k ∈ arr p b, ∃ j ∈ arr p a, bsm p n k j = true) := by
  simp only [bsm, Bool.and_eq_true, mch_iff]
theorem bsm_refl : ∀ (n a : Nat), bsm p n a a = true := by
  intro n
  induction n with
  | zero => intro a; rfl
  | succ n ih => intro a; exact bsm_succ.2 ⟨ih a, fun k hk => ⟨k, hk, ih k⟩, fun k hk => ⟨k, hk, ih k⟩⟩
theorem bsm_trans : ∀ (n : Nat) {a b c : Nat}, bsm p n a b = true → bsm p n b c = true → bsm p n a c = true := by
  intro n
  induction n with
  | zero => intro a b c _ _; rfl
  | succ n ih =>
    intro a b c h1 h2
    obtain ⟨h3, h4, h5⟩ := bsm_succ.1 h1
    obtain ⟨h6, h7, h8⟩ := bsm_succ.1 h2
    refine bsm_succ.2 ⟨ih h3 h6, fun k hk => ?_, fun k hk => ?_⟩
    · obtain ⟨j, hj, e⟩ := h4 k hk
      obtain ⟨i, hi, e2⟩ := h7 j hj
      exact ⟨i, hi, ih e e2⟩
    · obtain ⟨j, hj, e⟩ := h8 k hk
      obtain ⟨i, hi, e2⟩ := h5 j hj
      exact ⟨i, hi, ih e e2⟩
/-- the least of those it is not told apart from -/
def ldr (p : List (List Int)) (n a : Nat) : Prop := ∀ b, b < a → bsm p n b a = false
theorem ldr_ex (n : Nat) : ∀ a, ∃ c, c ≤ a ∧ ldr p n c ∧ bsm p n c a = true := by
  intro a
  induction a using Nat.strongRecOn with
  | ind a ih =>
    by_cases h : ldr p n a
    · exact ⟨a, Nat.le_refl _, h, bsm_refl _ _⟩
    · obtain ⟨b, hb⟩ := Classical.not_forall.1 h
      obtain ⟨hb, h2⟩ := Classical.not_imp.1 hb
      obtain ⟨c, hc, h3, h4⟩ := ih b hb
      exact ⟨c, by omega, h3, bsm_trans n h4 (by simpa using h2)⟩
theorem ldr_eq (h1 : ldr p n c) (h2 : ldr p n d) (h : bsm p n c d = true) : c = d := by
  rcases Nat.lt_trichotomy c d with hl | rfl | hl
  · rw [h2 c hl] at h; cases h
  · rfl
  · rw [bsm_sym, h1 d hl] at h; cases h
theorem ldr_up (h : ldr p n a) : ldr p (n + 1) a := fun b hb => by
  cases hc : bsm p (n + 1) b a with
  | false => rfl
  | true => have := bsm_le hc; rw [h b hb] at this; cases this
def stab (p : List (List Int)) (n : Nat) : Prop := ∀ a b, a < p.length → b < p.length → bsm p n a b = true → bsm p (n + 1) a b = true
theorem stab_of (h : ∀ a, a < p.length → ldr p (n + 1) a → ldr p n a) : stab p n := fun a b ha hb hab => by
  obtain ⟨c, hc, hc1, hc2⟩ := ldr_ex (p := p) (n + 1) a
  obtain ⟨d, hd, hd1, hd2⟩ := ldr_ex (p := p) (n + 1) b
  have e : c = d := by
    refine ldr_eq (h c (by omega) hc1) (h d (by omega) hd1) (bsm_trans n (bsm_le hc2) (bsm_trans n hab ?_))
    rw [bsm_sym]; exact bsm_le hd2
  subst e
  refine bsm_trans (n + 1) ?_ hd2
  rw [bsm_sym]; exact hc2
theorem arr_lt (hp : Pic p) (ha : a < p.length) (h : b ∈ arr p a) : b < p.length := ((mem_arr hp ha).1 h).1
theorem stab_succ (hp : Pic p) (h : stab p n) : stab p (n + 1) := fun a b ha hb hab => by
  obtain ⟨h1, h2, h3⟩ := bsm_succ.1 hab
  refine bsm_succ.2 ⟨hab, fun k hk => ?_, fun k hk => ?_⟩
  · obtain ⟨j, hj, e⟩ := h2 k hk
    exact ⟨j, hj, h _ _ (arr_lt hp ha hk) (arr_lt hp hb hj) e⟩
  · obtain ⟨j, hj, e⟩ := h3 k hk
    exact ⟨j, hj, h _ _ (arr_lt hp hb hk) (arr_lt hp ha hj) e⟩
theorem stab_or (hp : Pic p) : ∀ n, stab p n ∨ n + 1 < cnt (ldr p (n + 1)) p.length := by
  have key : ∀ n, stab p n ∨ cnt (ldr p n) p.length < cnt (ldr p (n + 1)) p.length := fun n => by
    by_cases h : ∀ a, a < p.length → ldr p (n + 1) a → ldr p n a
    · exact .inl (stab_of h)
    · right
      obtain ⟨a, ha⟩ := Classical.not_forall.1 h
      obtain ⟨ha, h2⟩ := Classical.not_imp.1 ha
      obtain ⟨h2, h3⟩ := Classical.not_imp.1 h2
      exact cnt_lt (fun j _ hj => ldr_up hj) ha h2 h3
  intro n
  induction n with
  | zero =>
    rcases key 0 with h | h
    · exact .inl h
    · have := cnt_pos (P := ldr p 0) (k := 0) (n := p.length) (by have := hp.1; omega) (fun b hb => by omega)
      right; omega
  | succ n ih =>
    rcases ih with h | h
    · exact .inl (stab_succ hp h)
    · rcases key (n + 1) with h2 | h2
      · exact .inl h2
      · right; omega
theorem stab_len (hp : Pic p) (h : p.length ≤ n + 1) : stab p n := by
  rcases stab_or hp n with h1 | h1
  · exact h1
  · have := cnt_le (ldr p (n + 1)) p.length; omega
theorem bsm_up (hp : Pic p) (ha : a < p.length) (hb : b < p.length) (h : p.length ≤ n + 1) (hab : bsm p n a b = true) (m : Nat) : bsm p m a b = true := by
  by_cases hm : m ≤ n
  · exact bsm_mono hm hab
  · obtain ⟨k, rfl⟩ : ∃ k, m = n + k := ⟨m - n, by omega⟩
    clear hm
    induction k with
    | zero => exact hab
    | succ k ih => exact stab_len (n := n + k) hp (by omega) _ _ ha hb ih

/-- formulas do not tell apart what is left -/
theorem holds_bsm (f : Fm) : ∀ (n : Nat) {a b : Nat}, f.deep ≤ n → bsm p n a b = true → f.holds p a = f.holds p b := by
  have any_eq : ∀ (g : Nat → Bool) (n a b : Nat), (∀ k j, bsm p n k j = true → g k = g j) → bsm p (n + 1) a b = true → (arr p a).any g = (arr p b).any g := fun g n a b hg h => by
    obtain ⟨_, h2, h3⟩ := bsm_succ.1 h
    rw [Bool.eq_iff_iff, List.any_eq_true, List.any_eq_true]
    constructor
    · rintro ⟨k, hk, e⟩
      obtain ⟨j, hj, e2⟩ := h2 k hk
      exact ⟨j, hj, by rw [← hg _ _ e2]; exact e⟩
    · rintro ⟨k, hk, e⟩
      obtain ⟨j, hj, e2⟩ := h3 k hk
      exact ⟨j, hj, by rw [← hg _ _ e2]; exact e⟩
  induction f with
  | t => intro n a b _ _; rfl
  | neg f ih => intro n a b hn h; simp only [Fm.holds]; rw [ih n hn h]
  | S f ih =>
    intro n a b hn h
    simp only [Fm.deep] at hn
    obtain ⟨k, rfl⟩ : ∃ k, n = k + 1 := ⟨n - 1, by omega⟩
    simp only [Fm.holds]
    exact any_eq _ k a b (fun x y e => ih k (by omega) e) h
  | A f ih =>
    intro n a b hn h
    simp only [Fm.deep] at hn
    obtain ⟨k, rfl⟩ : ∃ k, n = k + 1 := ⟨n - 1, by omega⟩
    simp only [Fm.holds]
    rw [any_eq _ k a b (fun x y e => by rw [ih k (by omega) e]) h]
  | and f g ih1 ih2 =>
    intro n a b hn h
    simp only [Fm.deep] at hn
    simp only [Fm.holds]
    rw [ih1 n (by omega) h, ih2 n (by omega) h]
  | or f g ih1 ih2 =>
    intro n a b hn h
    simp only [Fm.deep] at hn
    simp only [Fm.holds]
    rw [ih1 n (by omega) h, ih2 n (by omega) h]
theorem holds_left (hp : Pic p) (f : Fm) (ha : a < p.length) (hb : b < p.length) (h : bsm p (min f.deep 30) a b = true) : f.holds p a = f.holds p b := by
  by_cases hd : f.deep ≤ 30
  · rw [Nat.min_eq_left hd] at h
    exact holds_bsm f _ (Nat.le_refl _) h
  · rw [Nat.min_eq_right (by omega)] at h
    exact holds_bsm f _ (Nat.le_refl _) (bsm_up hp ha hb (by have := hp.2.1; omega) h _)
theorem holds_same (hp : Pic p) (f : Fm) (ha : a < p.length) (hb : b < p.length) (h : bsm p p.length a b = true) : f.holds p a = f.holds p b := holds_bsm f _ (Nat.le_refl _) (bsm_up hp ha hb (by omega) h _)

open Classical in
/-- for how many rounds both are left; 1000: for ever -/
noncomputable def hld (p : List (List Int)) (a b : Nat) : Nat := if h : ∃ n, bsm p n a b = true ∧ bsm p (n + 1) a b = false then choose h else 1000
theorem hld_eq (h1 : bsm p n a b = true) (h2 : bsm p (n + 1) a b = false) : hld p a b = n := by
  have hx : ∃ n, bsm p n a b = true ∧ bsm p (n + 1) a b = false := ⟨n, h1, h2⟩
  unfold hld
  rw [dif_pos hx]
  have hs := Classical.choose_spec hx
  generalize Classical.choose hx = k at hs
  rcases Nat.lt_trichotomy k n with hl | rfl | hl
  · have := bsm_mono (m := k + 1) (by omega) h1; rw [hs.2] at this; cases this
  · rfl
  · have := bsm_mono (m := n + 1) (by omega) hs.1; rw [h2] at this; cases this
theorem hld_spec (h : bsm p m a b = false) : bsm p (hld p a b) a b = true ∧ bsm p (hld p a b + 1) a b = false ∧ hld p a b < m := by
  have key : ∀ m, bsm p m a b = false → ∃ n, n < m ∧ bsm p n a b = true ∧ bsm p (n + 1) a b = false := fun m => by
    induction m with
    | zero => intro h; cases h
    | succ m ih =>
      intro h
      cases hm : bsm p m a b with
      | true => exact ⟨m, by omega, hm, h⟩
      | false =>
        obtain ⟨n, h1, h2⟩ := ih hm
        exact ⟨n, by omega, h2⟩
  obtain ⟨n, h1, h2, h3⟩ := key m h
  rw [hld_eq h2 h3]
  exact ⟨h2, h3, h1⟩
theorem hld_top (hp : Pic p) (ha : a < p.length) (hb : b < p.length) (h : bsm p p.length a b = true) : hld p a b = 1000 := by
  unfold hld
  rw [dif_neg]
  rintro ⟨n, h1, h2⟩
  rw [bsm_up hp ha hb (by omega) h] at h2; cases h2
theorem hld_sym : hld p a b = hld p b a := by
  by_cases h : ∃ n, bsm p n a b = true ∧ bsm p (n + 1) a b = false
  · obtain ⟨n, h1, h2⟩ := h
    rw [hld_eq h1 h2, hld_eq (n := n) (by rw [bsm_sym]; exact h1) (by rw [bsm_sym]; exact h2)]
  · have h' : ¬ ∃ n, bsm p n b a = true ∧ bsm p (n + 1) b a = false := fun ⟨n, h1, h2⟩ => h ⟨n, by rw [bsm_sym]; exact h1, by rw [bsm_sym]; exact h2⟩
    unfold hld
    rw [dif_neg h, dif_neg h']
/-- held for n rounds exactly if left after them -/
theorem hld_ge (hp : Pic p) (ha : a < p.length) (hb : b < p.length) (hn : n ≤ p.length) : n ≤ hld p a b ↔ bsm p n a b = true := by
  cases h : bsm p p.length a b with
  | true => rw [hld_top hp ha hb h]; have := hp.2.1; exact ⟨fun _ => bsm_mono hn h, fun _ => by omega⟩
  | false =>
    obtain ⟨h1, h2, h3⟩ := hld_spec h
    constructor
    · intro hl; exact bsm_mono hl h1
    · intro hb
      rcases Nat.lt_or_ge (hld p a b) n with hl | hl
      · rw [bsm_mono (m := hld p a b + 1) (by omega) hb] at h2; cases h2
      · exact hl

/-- a member that no answer holds for n rounds -/
def gd (p : List (List Int)) (n a b : Nat) : Option Nat := (arr p a).find? fun k => (arr p b).all fun j => !bsm p n k j
def conj : List Fm → Fm
  | [] => .t
  | x :: xs => xs.foldl .and x
noncomputable def apF (p : List (List Int)) : Nat → Nat → Nat → Fm
  | 0, _, _ => .t
  | r + 1, a, b => match gd p (hld p a b) a b with
    | some k => .S (conj ((arr p b).map (apF p r k)))
    | none => .neg (apF p r b a)
noncomputable def mu (p : List (List Int)) (a b : Nat) : Nat := 2 * hld p a b + if (gd p (hld p a b) a b).isSome then 0 else 1
theorem gd_some {k : Nat} (h : gd p n a b = some k) : k ∈ arr p a ∧ ∀ j ∈ arr p b, bsm p n k j = false := by
  have h1 := List.mem_of_find?_eq_some h
  have h2 := List.find?_some h
  simp only [List.all_eq_true, Bool.not_eq_true'] at h2
  exact ⟨h1, h2⟩
theorem gd_none (h : gd p n a b = none) : ∀ k ∈ arr p a, ∃ j ∈ arr p b, bsm p n k j = true := fun k hk => by
  have := List.find?_eq_none.1 h k hk
  simpa using this
theorem gd_one (h1 : bsm p n a b = true) (h2 : bsm p (n + 1) a b = false) (h : gd p n a b = none) : (gd p n b a).isSome := by
  cases h3 : gd p n b a with
  | some k => rfl
  | none =>
    have := (bsm_succ (n := n)).2 ⟨h1, gd_none h, gd_none h3⟩
    rw [h2] at this; cases this
theorem mu_S {k j : Nat} (h : bsm p p.length a b = false) (hg : gd p (hld p a b) a b = some k) (hj : j ∈ arr p b) : bsm p p.length k j = false ∧ mu p k j < mu p a b := by
  have h1 := (gd_some hg).2 j hj
  obtain ⟨h2, h3, h4⟩ := hld_spec h
  obtain ⟨h5, h6, h7⟩ := hld_spec h1
  constructor
  · cases hx : bsm p p.length k j with
    | false => rfl
    | true => rw [bsm_mono (by omega) hx] at h1; cases h1
  · unfold mu
    rw [hg]
    split <;> simp <;> omega
theorem mu_N (h : bsm p p.length a b = false) (hg : gd p (hld p a b) a b = none) : bsm p p.length b a = false ∧ mu p b a < mu p a b := by
  obtain ⟨h2, h3, h4⟩ := hld_spec h
  constructor
  · rw [bsm_sym]; exact h
  · unfold mu
    rw [hg, ← hld_sym (a := a) (b := b), gd_one h2 h3 hg]
    simp
theorem conj_holds (l : List Fm) (i : Nat) : (conj l).holds p i = l.all fun f => f.holds p i := by
  have key : ∀ (xs : List Fm) (x : Fm), (xs.foldl Fm.and x).holds p i = (x.holds p i && xs.all fun f => f.holds p i) := fun xs => by
    induction xs with
    | nil => intro x; simp
    | cons y ys ih => intro x; simp only [List.foldl_cons, ih, Fm.holds, List.all_cons, Bool.and_assoc]
  cases l with
  | nil => rfl
  | cons x xs => simp only [conj, key, List.all_cons]
theorem conj_deep (l : List Fm) (n : Nat) (h1 : ∀ f ∈ l, f.deep ≤ n) (h2 : 0 < n → ∃ f ∈ l, f.deep = n) : (conj l).deep = n := by
  have key : ∀ (xs : List Fm) (x : Fm), x.deep ≤ n → (∀ f ∈ xs, f.deep ≤ n) → x.deep ≤ (xs.foldl Fm.and x).deep ∧ (xs.foldl Fm.and x).deep ≤ n ∧ ∀ f ∈ xs, f.deep ≤ (xs.foldl Fm.and x).deep := fun xs => by
    induction xs with
    | nil => intro x h _; exact ⟨Nat.le_refl _, h, by simp⟩
    | cons y ys ih =>
      intro x h h'
      have hy := h' y (by simp)
      obtain ⟨k1, k2, k3⟩ := ih (.and x y) (by simp only [Fm.deep]; omega) fun f hf => h' f (by simp [hf])
      simp only [Fm.deep] at k1
      simp only [List.foldl_cons]
      refine ⟨by omega, k2, fun f hf => ?_⟩
      rcases List.mem_cons.1 hf with rfl | hf
      · omega
      · exact k3 f hf
  cases l with
  | nil =>
    have : n = 0 := by
      rcases Nat.eq_zero_or_pos n with h | h
      · exact h
      · obtain ⟨f, hf, _⟩ := h2 h; cases hf
    rw [this]; rfl
  | cons x xs =>
    obtain ⟨k1, k2, k3⟩ := key xs x (h1 x (by simp)) fun f hf => h1 f (by simp [hf])
    simp only [conj]
    rcases Nat.eq_zero_or_pos n with h | h
    · omega
    · obtain ⟨f, hf, e⟩ := h2 h
      rcases List.mem_cons.1 hf with rfl | hf
      · omega
      · have := k3 f hf; omega
theorem apF_ok (hp : Pic p) : ∀ (r a b : Nat), bsm p p.length a b = false → mu p a b < r → (apF p r a b).holds p a = true ∧ (apF p r a b).holds p b = false ∧ (apF p r a b).deep = hld p a b + 1 := by
  intro r
  induction r with
  | zero => intro a b _ h; omega
  | succ r ih =>
    intro a b h hm
    obtain ⟨hh1, hh2, hh3⟩ := hld_spec h
    simp only [apF]
    cases hg : gd p (hld p a b) a b with
    | none =>
      obtain ⟨k1, k2⟩ := mu_N h hg
      obtain ⟨k3, k4, k5⟩ := ih b a k1 (by omega)
      simp only [Fm.holds, Fm.deep, k3, k4, k5, hld_sym (a := b) (b := a)]
      simp
    | some k =>
      have hS : ∀ j ∈ arr p b, (apF p r k j).holds p k = true ∧ (apF p r k j).holds p j = false ∧ (apF p r k j).deep = hld p k j + 1 := fun j hj => by
        obtain ⟨k1, k2⟩ := mu_S h hg hj
        exact ih k j k1 (by omega)
      obtain ⟨g1, g2⟩ := gd_some hg
      simp only [Fm.holds, Fm.deep]
      refine ⟨List.any_eq_true.2 ⟨k, g1, ?_⟩, ?_, ?_⟩
      · rw [conj_holds, List.all_map, List.all_eq_true]
        exact fun j hj => (hS j hj).1
      · rw [List.any_eq_false]
        intro j hj
        rw [conj_holds, List.all_map, Bool.not_eq_true, List.all_eq_false]
        exact ⟨j, hj, by simp [(hS j hj).2.1]⟩
      · rw [conj_deep _ (hld p a b)]
        · intro f hf
          obtain ⟨j, hj, rfl⟩ := List.mem_map.1 hf
          have := (hld_spec (g2 j hj)).2.2
          rw [(hS j hj).2.2]; omega
        · intro hpos
          obtain ⟨n, hn⟩ : ∃ n, hld p a b = n + 1 := ⟨hld p a b - 1, by omega⟩
          rw [hn] at hh1 g2 ⊢
          obtain ⟨j, hj, e⟩ := (bsm_succ.1 hh1).2.1 k g1
          exact ⟨_, List.mem_map.2 ⟨j, hj, rfl⟩, by rw [(hS j hj).2.2, hld_eq e (g2 j hj)]⟩
/-- not t, and not too long -/
theorem apF_ne : ∀ (r a b : Nat), 0 < r → apF p r a b ≠ .t := by
  intro r a b hr
  cases r with
  | zero => omega
  | succ r => simp only [apF]; split <;> simp
theorem conj_len (l : List Fm) (n : Nat) (h : ∀ f ∈ l, f.enc.length ≤ n) : (conj l).enc.length ≤ 1 + l.length * (n + 3) := by
  have key : ∀ (xs : List Fm) (x : Fm), (∀ f ∈ xs, f.enc.length ≤ n) → (xs.foldl Fm.and x).enc.length ≤ x.enc.length + xs.length * (n + 3) := fun xs => by
    induction xs with
    | nil => intro x _; simp
    | cons y ys ih =>
      intro x h
      have h1 := ih (.and x y) fun f hf => h f (by simp [hf])
      have h2 := h y (by simp)
      simp only [Fm.enc, List.length_cons, List.length_append, List.length_nil] at h1
      simp only [List.foldl_cons, List.length_cons, Nat.succ_mul]
      omega
  cases l with
  | nil => simp [conj, Fm.enc]
  | cons x xs =>
    have h1 := key xs x fun f hf => h f (by simp [hf])
    have h2 := h x (by simp)
    simp only [conj, List.length_cons, Nat.succ_mul]
    omega
theorem arr_len5 (hp : Pic p) (ha : a < p.length) : (arr p a).length ≤ 5 := by
  have := arrR_len (p.getD a [])
  rw [getD_lt ha, hp.row ha, ← getD_lt (d := []) ha] at this
  have := hp.2.1
  unfold arr; omega
theorem apF_len (hp : Pic p) : ∀ (r a b : Nat), a < p.length → b < p.length → (apF p r a b).enc.length + 16 ≤ 17 * 5 ^ r := by
  intro r
  induction r with
  | zero => intro a b _ _; simp [apF, Fm.enc]
  | succ r ih =>
    intro a b ha hb
    simp only [apF]
    cases hg : gd p (hld p a b) a b with
    | none =>
      have := ih b a hb ha
      simp only [Fm.enc, List.length_cons, Nat.pow_succ]; omega
    | some k =>
      have hk := arr_lt hp ha (gd_some hg).1
      have h1 := conj_len ((arr p b).map (apF p r k)) (17 * 5 ^ r - 16) fun f hf => by
        obtain ⟨j, hj, rfl⟩ := List.mem_map.1 hf
        have := ih k j hk (arr_lt hp hb hj); omega
      have h2 := arr_len5 hp hb
      have h3 : 1 ≤ 5 ^ r := Nat.one_le_pow _ _ (by omega)
      have h4 := Nat.mul_le_mul_right (17 * 5 ^ r - 16 + 3) h2
      simp only [List.length_map] at h1
      simp only [Fm.enc, List.length_cons, Nat.pow_succ]
      omega
/-- the first good member -/
theorem find_first {P : Nat → Bool} {x : Nat} : ∀ (l : List Nat), l.Pairwise (· < ·) → x ∈ l → P x = true → (∀ y ∈ l, y < x → P y = false) → l.find? P = some x := by
  intro l
  induction l with
  | nil => intro _ h; cases h
  | cons y ys ih =>
    intro hp hx h1 h2
    rcases List.mem_cons.1 hx with rfl | hx
    · simp [h1]
    · have hlt := (List.pairwise_cons.1 hp).1 x hx
      rw [List.find?_cons, h2 y (by simp) hlt]
      exact ih (List.pairwise_cons.1 hp).2 hx h1 fun z hz => h2 z (by simp [hz])
theorem arr_sorted (p : List (List Int)) (a : Nat) : (arr p a).Pairwise (· < ·) := by
  unfold arr arrR; exact (List.pairwise_lt_range).filter _
theorem gd_first {k : Nat} (h1 : k ∈ arr p a) (h2 : ∀ j ∈ arr p b, bsm p n k j = false) (h3 : ∀ i ∈ arr p a, i < k → ∃ j ∈ arr p b, bsm p n i j = true) : gd p n a b = some k := by
  refine find_first _ (arr_sorted p a) h1 ?_ fun y hy hl => ?_
  · rw [List.all_eq_true]; intro j hj; rw [h2 j hj]; rfl
  · obtain ⟨j, hj, e⟩ := h3 y hy hl
    rw [List.all_eq_false]; exact ⟨j, hj, by rw [e]; decide⟩
theorem gd_not (h3 : ∀ i ∈ arr p a, ∃ j ∈ arr p b, bsm p n i j = true) : gd p n a b = none := by
  refine List.find?_eq_none.2 fun y hy => ?_
  obtain ⟨j, hj, e⟩ := h3 y hy
  rw [Bool.not_eq_true, List.all_eq_false]; exact ⟨j, hj, by rw [e]; decide⟩
theorem mu_ge : 2 * hld p a b ≤ mu p a b := by unfold mu; omega
theorem mu_le (hp : Pic p) (h : bsm p p.length a b = false) : mu p a b < 10 := by
  have h1 := (hld_spec h).2.2
  have h2 := hp.2.1
  unfold mu; split <;> omega
theorem mu_part {k j : Nat} (h : bsm p p.length a b = false) (h1 : bsm p (hld p a b) k j = false) : bsm p p.length k j = false ∧ mu p k j < mu p a b := by
  obtain ⟨h2, h3, h4⟩ := hld_spec h
  obtain ⟨h5, h6, h7⟩ := hld_spec h1
  constructor
  · cases hx : bsm p p.length k j with
    | false => rfl
    | true => rw [bsm_mono (by omega) hx] at h1; cases h1
  · have := mu_ge (p := p) (a := a) (b := b)
    have : mu p k j ≤ 2 * hld p k j + 1 := by unfold mu; split <;> omega
    omega
theorem conj_snoc (l : List Fm) (x : Fm) (h : l ≠ []) : conj (l ++ [x]) = .and (conj l) x := by
  cases l with
  | nil => exact absurd rfl h
  | cons y ys => simp [conj]
theorem conj_ne (l : List Fm) (h : l ≠ []) (h2 : ∀ f ∈ l, f ≠ .t) : conj l ≠ .t := by
  have key : ∀ (xs : List Fm) (x : Fm), x ≠ .t → xs.foldl Fm.and x ≠ .t := fun xs => by
    induction xs with
    | nil => intro x h; exact h
    | cons y ys ih => intro x h; exact ih _ (by simp)
  cases l with
  | nil => exact absurd rfl h
  | cons y ys => exact key ys y (h2 y (by simp))
theorem enc_t {f : Fm} (h : f ≠ .t) : f.enc ≠ [116] := fun e => h (Fm.enc_inj' (g := .t) e)
end
end Go.Hs
