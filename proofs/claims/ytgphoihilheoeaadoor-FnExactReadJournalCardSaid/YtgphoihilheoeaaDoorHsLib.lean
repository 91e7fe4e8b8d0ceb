/- What Go's library says of texts at a separator of one byte: no program in sight. -/
import Derived.Test.YtgphoihilheoeaaDoorHsTxt
import Derived.Test.YtgphoihilheoeaaDoorHsOwn
import Derived.Test.YtgphoihilheoeaaDoorHsByt
import Derived.Lib.SplitLaws
import Derived.Lib.Join
import Derived.Lib.ItoaNum
set_option linter.unusedVariables false
set_option linter.unusedSimpArgs false
namespace Go.Hs
section
variable {c : UInt8} {l a r : List UInt8}
theorem byte_ind (c : UInt8) (s : List UInt8) : c ∉ s ∨ ∃ x r, s = x ++ c :: r ∧ c ∉ x := by
  induction s with
  | nil => exact .inl (by simp)
  | cons d s ih =>
    by_cases hd : d = c
    · exact .inr ⟨[], s, by simp [hd], by simp⟩
    · rcases ih with h | ⟨x, r, rfl, h⟩
      · exact .inl (by simp only [List.mem_cons, not_or]; exact ⟨fun e => hd e.symm, h⟩)
      · exact .inr ⟨d :: x, r, rfl, by simp only [List.mem_cons, not_or]; exact ⟨fun e => hd e.symm, h⟩⟩
theorem index_no (h : c ∉ l) : Go.Lib.index l [c] = -1 := by
  induction l with
  | nil => rfl
  | cons d l ih =>
    simp only [List.mem_cons, not_or] at h
    rw [Go.Lib.index, ih h.2]
    simp [List.isPrefixOf, h.1]
theorem index_at (h : c ∉ a) : Go.Lib.index (a ++ c :: r) [c] = (a.length : Int) := by
  induction a with
  | nil => rw [List.nil_append, Go.Lib.index]; simp [List.isPrefixOf]
  | cons d a ih =>
    simp only [List.mem_cons, not_or] at h
    rw [List.cons_append, Go.Lib.index, ih h.2]
    have : ¬ ((a.length : Int) == -1) = true := by simp only [beq_iff_eq]; omega
    rw [if_neg (by simp [List.isPrefixOf, h.1]), if_neg this]
    simp
theorem split_eq (c : UInt8) : ∀ (n : Nat) (l : List UInt8), l.length ≤ n → Go.Lib.split l [c] = cutB c l := by
  intro n
  induction n with
  | zero =>
    intro l hl
    obtain rfl := List.eq_nil_of_length_eq_zero (Nat.le_zero.1 hl)
    rfl
  | succ n ih =>
    intro l hl
    rcases byte_ind c l with h | ⟨a, r, rfl, h⟩
    · rw [cutB_one h]
      unfold Go.Lib.split
      rw [Go.Lib.count_miss (index_no h)]
      rfl
    · rw [cutB_app h, ← ih r (by simp at hl; omega)]
      unfold Go.Lib.split
      rw [Go.Lib.count_hit (by simp) (index_at h)]
      have hd : (a ++ c :: r).drop (a.length + [c].length) = r := by
        rw [List.drop_append]
        simp
      rw [hd, Nat.add_comm 1, Go.Lib.splitK, index_at h]
      have : ¬ ((a.length : Int) == -1) = true := by simp only [beq_iff_eq]; omega
      rw [if_neg this]
      simp only [Int.toNat_natCast, Nat.add_zero, hd, List.take_left']
theorem splitB_eq (c : UInt8) (l : List UInt8) : (Go.Lib.splitB ⟨#[c]⟩ 0 (Go.Lib.countB ⟨l.toArray⟩ ⟨#[c]⟩) ⟨l.toArray⟩).map Value.string = (cutB c l).map str := by
  have h := Go.Lib.splitB_data ⟨#[c]⟩ 0 (Go.Lib.countB ⟨l.toArray⟩ ⟨#[c]⟩) ⟨l.toArray⟩
  have h2 : Go.Lib.splitK [c] 0 (Go.Lib.countB ⟨l.toArray⟩ ⟨#[c]⟩) l = cutB c l := split_eq c l.length l (Nat.le_refl _)
  simp only at h
  rw [h2] at h
  rw [← h, List.map_map]
  refine List.map_congr_left fun x _ => ?_
  simp
theorem splitB_len (c : UInt8) (l : List UInt8) : Go.Lib.countB ⟨l.toArray⟩ ⟨#[c]⟩ + 1 = (cutB c l).length := by
  rw [← List.length_map (f := str), ← splitB_eq, List.length_map]
  exact (Go.Lib.splitB_all ⟨#[c]⟩ (by simp [ByteArray.size]) 0 _ ⟨l.toArray⟩ rfl).symm
/-- ahead of the first c, what is behind it, is there one -/
def cutF (c : UInt8) : List UInt8 → List UInt8 × List UInt8 × Bool
  | [] => ([], [], false)
  | d :: l => if d = c then ([], l, true) else (d :: (cutF c l).1, (cutF c l).2.1, (cutF c l).2.2)
theorem cutF_no (h : c ∉ l) : cutF c l = (l, [], false) := by
  induction l with
  | nil => rfl
  | cons d l ih =>
    simp only [List.mem_cons, not_or] at h
    rw [cutF, if_neg (fun e => h.1 e.symm), ih h.2]
theorem cutF_at (h : c ∉ a) : cutF c (a ++ c :: r) = (a, r, true) := by
  induction a with
  | nil => rw [List.nil_append, cutF, if_pos rfl]
  | cons d a ih =>
    simp only [List.mem_cons, not_or] at h
    rw [List.cons_append, cutF, if_neg (fun e => h.1 e.symm), ih h.2]
theorem cut_eq (c : UInt8) (l : List UInt8) : Go.Lib.cut l [c] = cutF c l := by
  rcases byte_ind c l with h | ⟨a, r, rfl, h⟩
  · rw [cutF_no h, Go.Lib.cut, index_no h, if_neg (by decide)]
  · rw [cutF_at h, Go.Lib.cut, index_at h, if_pos (by omega)]
    simp
theorem cutF_len (c : UInt8) (l : List UInt8) : (cutF c l).1.length ≤ l.length ∧ (cutF c l).2.1.length ≤ l.length := by
  rcases byte_ind c l with h | ⟨a, r, rfl, h⟩
  · rw [cutF_no h]; simp
  · rw [cutF_at h]; simp; omega
theorem join_eq (c : UInt8) (ps : List (List UInt8)) : Go.Lib.join ps [c] = joinB c ps := by
  have h : ∀ (x : List UInt8) (ps : List (List UInt8)), Go.Lib.join (x :: ps) [c] = x ++ ps.flatMap fun y => c :: y := by
    intro x ps
    induction ps generalizing x with
    | nil => rw [Go.Lib.join_one]; simp
    | cons y ps ih =>
      have := ih y
      unfold Go.Lib.join List.intercalate at this ⊢
      simp only [List.intersperse, List.flatten_cons, List.flatMap_cons] at this ⊢
      rw [this]
      simp
  cases ps with
  | nil => rfl
  | cons x ps => exact h x ps
theorem decDigits_small {n : Nat} (h : n < 10) : Go.Lib.decDigits n = [dig n] := by
  rw [Go.Lib.decDigits, dif_pos h]; rfl
end
/-- a package-level variable that holds some int -/
def EMx (g : Nat) : World → Value → Unit → Prop := fun w _ _ => ∃ m, w.cell? ⟨g, 0, none⟩ = some (.int .i64 m)
instance {g : Nat} : Mono (EMx g) := ⟨fun e ⟨m, h⟩ => ⟨m, e.cell h⟩⟩
theorem xall_str {w : World} : ∀ (xs : List (List UInt8)), (∀ x ∈ xs, x.length ≤ 9223372036854775807) → XAll XStr w (List.replicate xs.length []) (xs.map str) xs
  | [], _ => trivial
  | x :: xs, h => ⟨⟨rfl, rfl, h x (by simp)⟩, xall_str xs fun y hy => h y (by simp [hy])⟩
theorem cutB_mem_len {c : UInt8} : ∀ (n : Nat) (l : List UInt8), l.length ≤ n → ∀ x ∈ cutB c l, x.length ≤ l.length := by
  intro n
  induction n with
  | zero =>
    intro l hl x hx
    obtain rfl := List.eq_nil_of_length_eq_zero (Nat.le_zero.1 hl)
    simp [cutB] at hx
    simp [hx]
  | succ n ih =>
    intro l hl x h
    rcases byte_ind c l with hn | ⟨a, r, rfl, hn⟩
    · rw [cutB_one hn] at h; simp at h; simp [h]
    · rw [cutB_app hn] at h
      rcases List.mem_cons.1 h with rfl | h
      · simp
      · have := ih r (by simp at hl; omega) x h
        simp; omega
end Go.Hs
