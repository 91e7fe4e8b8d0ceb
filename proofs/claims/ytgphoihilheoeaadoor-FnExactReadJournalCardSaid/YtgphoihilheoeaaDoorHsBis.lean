/- Who answers whom, round by round: no program in sight. -/
import Derived.Test.YtgphoihilheoeaaDoorHsPic
set_option linter.unusedVariables false
set_option linter.unusedSimpArgs false
namespace Go.Hs

/-- each arrow of a is answered by one of b -/
def mch (p : List (List Int)) (S : Nat → Nat → Bool) (a b : Nat) : Bool := (arr p a).all fun k => (arr p b).any fun j => S k j
/-- not told apart within n rounds -/
def bsm (p : List (List Int)) : Nat → Nat → Nat → Bool
  | 0 => fun _ _ => true
  | n + 1 => fun a b => bsm p n a b && (mch p (bsm p n) a b && mch p (bsm p n) b a)
section
variable {p : List (List Int)} {a b n : Nat}
theorem bsm_sym : ∀ (n a b : Nat), bsm p n a b = bsm p n b a := by
  intro n
  induction n with
  | zero => intro a b; rfl
  | succ n ih =>
    intro a b
    simp only [bsm]
    rw [ih a b, Bool.and_comm (mch p (bsm p n) a b)]
theorem mch_flip {S : Nat → Nat → Bool} (h : ∀ a b, S a b = S b a) : mch p S b a = (arr p b).all fun y => (arr p a).any fun x => S x y := by
  unfold mch
  congr 1; funext k; congr 1; funext j
  exact h k j
theorem bsm_le (h : bsm p (n + 1) a b = true) : bsm p n a b = true := by
  simp only [bsm, Bool.and_eq_true] at h; exact h.1
theorem bsm_mono {m : Nat} (hm : m ≤ n) (h : bsm p n a b = true) : bsm p m a b = true := by
  induction n with
  | zero => rw [show m = 0 by omega]; exact h
  | succ n ih =>
    by_cases e : m = n + 1
    · rw [e]; exact h
    · exact ih (by omega) (bsm_le h)
theorem all_range_succ (g : Nat → Bool) (k : Nat) : (List.range (k + 1)).all g = ((List.range k).all g && g k) := by rw [List.range_succ, List.all_append]; simp
theorem all_false {P : Nat → Bool} {k n : Nat} (h : k ≤ n) (h2 : (List.range k).all P = false) : (List.range n).all P = false := by
  rw [List.all_eq_false] at *
  obtain ⟨x, hx, hq⟩ := h2
  exact ⟨x, List.mem_range.2 (by have := List.mem_range.1 hx; omega), hq⟩
theorem any_range_succ' (g : Nat → Bool) (k : Nat) : (List.range (k + 1)).any g = ((List.range k).any g || g k) := by rw [List.range_succ, List.any_append]; simp
theorem arr_all (hp : Gr p) {i : Nat} (hi : i < p.length) (g : Nat → Bool) : (arr p i).all g = (List.range p.length).all fun j => !decide (p[i].getD j 0 = 1) || g j := by
  unfold arr arrR
  rw [getD_lt hi, hp.row hi, List.all_filter]
theorem arr_any' (hp : Gr p) {i : Nat} (hi : i < p.length) (g : Nat → Bool) : (arr p i).any g = (List.range p.length).any fun j => decide (p[i].getD j 0 = 1) && g j := by
  unfold arr arrR
  rw [getD_lt hi, hp.row hi, List.any_filter]
theorem Gr.el01 (hp : Gr p) {i j : Nat} (hi : i < p.length) (hj : j < p[i].length) : p[i][j] = 0 ∨ p[i][j] = 1 := (hp.2.2 _ (List.getElem_mem hi)).2 _ (List.getElem_mem hj)
theorem Pic.el01 (hp : Pic p) {i j : Nat} (hi : i < p.length) (hj : j < p[i].length) : p[i][j] = 0 ∨ p[i][j] = 1 := hp.gr.el01 hi hj
def b01 (b : Bool) : Int := if b then 1 else 0
/-- the rows that say who is not told apart -/
def matV (p : List (List Int)) (S : Nat → Nat → Bool) : List (List Int) := (List.range p.length).map fun a => (List.range p.length).map fun b => b01 (S a b)
theorem matV_len (S : Nat → Nat → Bool) : (matV p S).length = p.length := by simp [matV]
theorem matV_row {S : Nat → Nat → Bool} (ha : a < p.length) : (matV p S)[a]'(by rw [matV_len]; exact ha) = (List.range p.length).map fun b => b01 (S a b) := by simp [matV]
theorem matV_rlen {S : Nat → Nat → Bool} (ha : a < p.length) : ((matV p S)[a]'(by rw [matV_len]; exact ha)).length = p.length := by rw [matV_row ha]; simp
theorem b01_one {b : Bool} : b01 b = 1 ↔ b = true := by cases b <;> simp [b01]
theorem matV_at {S : Nat → Nat → Bool} (ha : a < p.length) (hb : b < p.length) : ((matV p S)[a]'(by rw [matV_len]; exact ha))[b]'(by rw [matV_rlen ha]; exact hb) = b01 (S a b) := by
  simp [matV]
theorem matV_zero : List.replicate p.length (List.replicate p.length (1 : Int)) = matV p (bsm p 0) := by
  have hr : ∀ {α : Type} (n : Nat) (x : α), (List.range n).map (fun _ => x) = List.replicate n x := fun n x => by
    rw [List.map_const']; simp
  unfold matV
  simp only [bsm, b01, if_pos, if_true]
  rw [hr, hr]
def leftV (p : List (List Int)) (z : Int) : List (List Int) := if Pic p ∧ 0 ≤ z ∧ z ≤ 30 then matV p (bsm p z.toNat) else []
end
end Go.Hs
