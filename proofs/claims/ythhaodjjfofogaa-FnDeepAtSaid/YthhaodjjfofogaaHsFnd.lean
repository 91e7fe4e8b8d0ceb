/- Founded nodes, step by step: no program in sight. -/
import Derived.Test.YthhaodjjfofogaaHsPic
namespace Go.Hs
def fstep (p : List (List Int)) (f : Nat → Bool) (k : Nat) : Bool := !((arr p k).any fun j => !(f j))
def fnd (p : List (List Int)) : Nat → Nat → Bool
  | 0 => fun _ => false
  | n + 1 => fstep p (fnd p n)
def foundedV (p : List (List Int)) (z : Int) : List Nat := if Pic p ∧ 0 ≤ z ∧ z ≤ 5 then (List.range p.length).filter (fnd p z.toNat) else []
theorem any_range_succ (g : Nat → Bool) (k : Nat) : (List.range (k + 1)).any g = ((List.range k).any g || g k) := by rw [List.range_succ, List.any_append]; simp
theorem arr_any {p : List (List Int)} (hp : Pic p) {i : Nat} (hi : i < p.length) (g : Nat → Bool) : (arr p i).any g = (List.range p.length).any fun j => decide (p[i].getD j 0 = 1) && g j := by
  unfold arr arrR
  rw [getD_lt hi, hp.row hi, List.any_filter]
theorem shr_mod (x j : Nat) : ((x >>> j : Nat) : Int) % 2 = if x.testBit j then 1 else 0 := by
  rw [Nat.testBit_eq_decide_div_mod_eq, Nat.shiftRight_eq_div_pow]
  generalize x / 2 ^ j = q
  by_cases h : q % 2 = 1
  · rw [if_pos (by simpa using h)]; omega
  · rw [if_neg (by simpa using h)]; omega
theorem bit_add {x k : Nat} (hx : x < 2 ^ k) (g : Nat) (hg : g ≤ 1) : x + g <<< k < 2 ^ (k + 1) ∧ ∀ j, j < k + 1 → (x + g <<< k).testBit j = if j = k then decide (g = 1) else x.testBit j := by
  have e : x + g <<< k = 2 ^ k * g + x := by rw [Nat.shiftLeft_eq, Nat.mul_comm, Nat.add_comm]
  rw [e]
  refine ⟨?_, fun j hj => ?_⟩
  · have : 2 ^ k * g ≤ 2 ^ k * 1 := Nat.mul_le_mul_left _ hg
    rw [Nat.pow_succ]; omega
  · rw [Nat.testBit_two_pow_mul_add _ hx]
    by_cases h : j < k
    · rw [if_pos h, if_neg (by omega)]
    · have : j = k := by omega
      subst this
      rw [if_neg (by omega), if_pos rfl, Nat.sub_self]
      have : g = 0 ∨ g = 1 := by omega
      rcases this with rfl | rfl <;> rfl
theorem shl_le {g k : Nat} (hg : g ≤ 1) (hk : k ≤ 12) : g <<< k ≤ 4096 := by
  rw [Nat.shiftLeft_eq]
  have h1 : 2 ^ k ≤ 2 ^ 12 := Nat.pow_le_pow_right (by omega) hk
  have h2 : g * 2 ^ k ≤ 1 * 2 ^ 12 := Nat.mul_le_mul hg h1
  omega
theorem pow_le5 {k : Nat} (hk : k ≤ 12) : 2 ^ k ≤ 4096 := Nat.pow_le_pow_right (n := 2) (by omega) hk
end Go.Hs
