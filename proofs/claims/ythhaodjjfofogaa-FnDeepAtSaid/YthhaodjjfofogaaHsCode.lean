/- Codes of sets, and how deep they are: no program in sight. -/
import Derived.Test.YthhaodjjfofogaaHsFndR
set_option linter.unusedVariables false
namespace Go.Hs
section
variable {p : List (List Int)} {j k n m c : Nat}
def bts (c : Nat) : List Nat := (List.range 16).filter c.testBit
theorem mem_bts : m ∈ bts c ↔ m < 16 ∧ c.testBit m = true := by unfold bts; rw [List.mem_filter, List.mem_range]
theorem bit_lt' (h : c.testBit m = true) : m < c := by
  have h1 := Nat.ge_two_pow_of_testBit h
  have h2 : m < 2 ^ m := Nat.lt_two_pow_self
  omega
/-- how deep a code is, with so much to spend -/
def cdp : Nat → Nat → Nat
  | 0, _ => 0
  | r + 1, c => (bts c).foldl (fun n m => max n (cdp r m + 1)) 0
theorem cdp_le : ∀ (r c : Nat), cdp r c ≤ c + 1 := by
  intro r
  induction r with
  | zero => intro c; simp [cdp]
  | succ r ih =>
    intro c
    have : cdp (r + 1) c < (c + 1) + 1 := by
      show (bts c).foldl (fun n m => max n (cdp r m + 1)) 0 < (c + 1) + 1
      rw [fold_lt]
      refine ⟨by omega, fun m hm => ?_⟩
      have := ih m
      have := bit_lt' (mem_bts.1 hm).2
      omega
    omega
/-- one more member -/
def codS (o x : Option Nat) : Option Nat := match o, x with
  | some s, some m => if m ≤ 15 then some (s ||| 1 <<< m) else none
  | _, _ => none
def cod (p : List (List Int)) : Nat → Nat → Option Nat
  | 0, _ => none
  | r + 1, k => (arr p k).foldl (fun o j => codS o (cod p r j)) (some 0)
theorem codS_none (x : Option Nat) : codS none x = none := rfl
theorem cod_none (g : Nat → Option Nat) : ∀ (l : List Nat), l.foldl (fun o j => codS o (g j)) none = none := by
  intro l
  induction l with
  | nil => rfl
  | cons a l ih => rw [List.foldl_cons, codS_none]; exact ih
theorem cod_fold (g : Nat → Option Nat) : ∀ (l : List Nat) (s c : Nat), l.foldl (fun o j => codS o (g j)) (some s) = some c →
    (∀ j ∈ l, ∃ m, g j = some m ∧ m ≤ 15) ∧ (∀ i, c.testBit i = true ↔ s.testBit i = true ∨ ∃ j ∈ l, g j = some i) ∧ (s < 65536 → c < 65536) := by
  intro l
  induction l with
  | nil => intro s c h; cases h; exact ⟨fun j hj => by simp at hj, fun i => by simp, id⟩
  | cons a l ih =>
    intro s c h
    rw [List.foldl_cons] at h
    cases hg : g a with
    | none => rw [hg, show codS (some s) none = none from rfl, cod_none] at h; cases h
    | some m =>
      by_cases hm : m ≤ 15
      · rw [hg, show codS (some s) (some m) = some (s ||| 1 <<< m) from if_pos hm] at h
        obtain ⟨h1, h2, h3⟩ := ih _ _ h
        refine ⟨fun j hj => ?_, fun i => ?_, fun hs => h3 ?_⟩
        · rcases List.mem_cons.1 hj with rfl | hj
          · exact ⟨m, hg, hm⟩
          · exact h1 j hj
        · rw [h2 i, Nat.testBit_or, Nat.one_shiftLeft, Nat.testBit_two_pow]
          simp only [Bool.or_eq_true, decide_eq_true_eq, List.mem_cons]
          constructor
          · rintro ((h | h) | ⟨j, hj, h⟩)
            · exact .inl h
            · exact .inr ⟨a, .inl rfl, by rw [hg, h]⟩
            · exact .inr ⟨j, .inr hj, h⟩
          · rintro (h | ⟨j, rfl | hj, h⟩)
            · exact .inl (.inl h)
            · rw [hg] at h; cases h; exact .inl (.inr rfl)
            · exact .inr ⟨j, hj, h⟩
        · have h4 : 2 ^ m < 2 ^ 16 := Nat.pow_lt_pow_right (by omega) (by omega)
          rw [Nat.one_shiftLeft]
          exact Nat.or_lt_two_pow (n := 16) hs h4
      · rw [hg, show codS (some s) (some m) = none from if_neg hm, cod_none] at h; cases h
theorem cod_lt {r : Nat} (h : cod p r k = some c) : c < 65536 := by
  cases r with
  | zero => cases h
  | succ r => exact (cod_fold _ _ _ _ h).2.2 (by omega)
/-- as deep as its code -/
theorem cdp_cod (hp : Pic p) : ∀ (r k : Nat), k < p.length → (rf p k).length ≤ r → cback p k = false → ∀ c, cod p r k = some c → ∀ q, c < q → ∀ n, cdp q c < n ↔ dpt p r k < n := by
  intro r
  induction r with
  | zero => intro k _ _ _ c h; cases h
  | succ r ih =>
    intro k hk hr hc c h q hq n
    cases n with
    | zero => exact ⟨fun h => by omega, fun h => by omega⟩
    | succ n =>
      obtain ⟨q, rfl⟩ : ∃ q', q = q' + 1 := ⟨q - 1, by omega⟩
      show (bts c).foldl (fun n m => max n (cdp q m + 1)) 0 < n + 1 ↔ (arr p k).foldl (fun n j => max n (dpt p r j + 1)) 0 < n + 1
      rw [fold_lt, fold_lt]
      obtain ⟨h1, h2, _⟩ := cod_fold _ _ _ _ h
      have key : ∀ j ∈ arr p k, ∀ m, cod p r j = some m → m < c → (cdp q m < n ↔ dpt p r j < n) := fun j hj m hm hlt => by
        have := rf_lt hp hk hc hj
        exact ih j ((mem_arr hp hk).1 hj).1 (by omega) (cback_arr hp hk hc hj) m hm q (by omega) n
      constructor
      · rintro ⟨_, h3⟩
        refine ⟨by omega, fun j hj => ?_⟩
        obtain ⟨m, hm, hm15⟩ := h1 j hj
        have ht := (h2 m).2 (.inr ⟨j, hj, hm⟩)
        exact (key j hj m hm (bit_lt' ht)).1 (h3 m (mem_bts.2 ⟨by omega, ht⟩))
      · rintro ⟨_, h3⟩
        refine ⟨by omega, fun m hm => ?_⟩
        obtain ⟨hm16, ht⟩ := mem_bts.1 hm
        rcases (h2 m).1 ht with h4 | ⟨j, hj, h4⟩
        · simp at h4
        · exact (key j hj m h4 (bit_lt' ht)).2 (h3 j hj)
theorem cdp_dpt (hp : Pic p) {r k : Nat} (hk : k < p.length) (hr : (rf p k).length ≤ r) (hc : cback p k = false) {c : Nat} (h : cod p r k = some c) {q : Nat} (hq : c < q) : cdp q c = dpt p r k := by
  have key := cdp_cod hp r k hk hr hc c h q hq
  have h1 := (key (cdp q c + 1)).1 (by omega)
  have h2 := (key (dpt p r k + 1)).2 (by omega)
  omega
end
end Go.Hs
