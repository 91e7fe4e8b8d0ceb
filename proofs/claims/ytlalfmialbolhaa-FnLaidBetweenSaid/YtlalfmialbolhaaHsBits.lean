/- Shifts, and, or on numbers that are not negative. -/
import Derived.Test.YtlalfmialbolhaaHsOps
import Derived.Laws.Shifts
set_option linter.unusedSimpArgs false
namespace Go.Hs
variable {P : Program} {ρ : Env} {w : World} {ty t t' : TypeId} {x y : Operand} {a b : Int}

theorem opv_shr {k : IntKind} (hx : evalE ρ x = .int .i64 a) (hy : evalE ρ y = .int k b) (h : 0 ≤ a ∧ a ≤ 9223372036854775807 ∧ 0 ≤ b) :
    OpV P (.binOp .shr t x y t') ty ρ w (.int .i64 ((a.toNat >>> b.toNat : Nat) : Int)) := by
  obtain ⟨A, rfl⟩ := Int.eq_ofNat_of_zero_le h.1
  obtain ⟨B, rfl⟩ := Int.eq_ofNat_of_zero_le h.2.2
  have key : ((A : Int) / 2 ^ min B 64 : Int) = ((A >>> B : Nat) : Int) := by
    rw [Nat.shiftRight_eq_div_pow]
    by_cases hb : B ≤ 64
    · rw [Nat.min_eq_left hb]; simp
    · rw [Nat.min_eq_right (by omega)]
      have h1 : A / 2 ^ B = 0 := Nat.div_eq_of_lt (Nat.lt_of_lt_of_le (show A < 2 ^ 64 by omega) (Nat.pow_le_pow_right (by omega) (by omega)))
      rw [h1]
      omega
  simp [OpV, execOp, hx, hy, eqGuard, binOp, shift_shr_any, IntKind.bits]
  exact key
theorem opv_and (hx : evalE ρ x = .int .i64 a) (hy : evalE ρ y = .int .i64 b) (h : 0 ≤ a ∧ 0 ≤ b ∧ b ≤ 9223372036854775807) :
    OpV P (.binOp .and t x y t') ty ρ w (.int .i64 ((a.toNat &&& b.toNat : Nat) : Int)) := by
  obtain ⟨A, rfl⟩ := Int.eq_ofNat_of_zero_le h.1
  obtain ⟨B, rfl⟩ := Int.eq_ofNat_of_zero_le h.2.1
  have hB : B < 2 ^ 63 := by omega
  have hx' : A &&& B ≤ B := Nat.and_le_right
  have key : IntKind.i64.wrap ((BitVec.ofInt 64 (A : Int) &&& BitVec.ofInt 64 (B : Int)).toNat : Int) = ((A &&& B : Nat) : Int) := by
    have e1 : (BitVec.ofInt 64 (A : Int)).toNat = A % 2 ^ 64 := by simp
    have e2 : (BitVec.ofInt 64 (B : Int)).toNat = B := by simp; omega
    have e3 : (A % 2 ^ 64) &&& B = A &&& B := by
      apply Nat.eq_of_testBit_eq
      intro i
      rw [Nat.testBit_and, Nat.testBit_and, Nat.testBit_mod_two_pow]
      by_cases hi : i < 64
      · simp [hi]
      · have : B.testBit i = false := Nat.testBit_lt_two_pow (Nat.lt_of_lt_of_le hB (Nat.pow_le_pow_right (by omega) (by omega)))
        simp [this]
    rw [BitVec.toNat_and, e1, e2, e3, IntKind.wrap_i64]
    omega
  simp [OpV, execOp, hx, hy, eqGuard, binOp, Op.intBits]
  exact key
theorem opv_or (hx : evalE ρ x = .int .i64 a) (hy : evalE ρ y = .int .i64 b) (h : 0 ≤ a ∧ a ≤ 9223372036854775807 ∧ 0 ≤ b ∧ b ≤ 9223372036854775807) :
    OpV P (.binOp .or t x y t') ty ρ w (.int .i64 ((a.toNat ||| b.toNat : Nat) : Int)) := by
  obtain ⟨A, rfl⟩ := Int.eq_ofNat_of_zero_le h.1
  obtain ⟨B, rfl⟩ := Int.eq_ofNat_of_zero_le h.2.2.1
  have hx' : A ||| B < 2 ^ 63 := Nat.or_lt_two_pow (by omega) (by omega)
  have key : IntKind.i64.wrap ((BitVec.ofInt 64 (A : Int) ||| BitVec.ofInt 64 (B : Int)).toNat : Int) = ((A ||| B : Nat) : Int) := by
    have e1 : (BitVec.ofInt 64 (A : Int)).toNat = A := by simp; omega
    have e2 : (BitVec.ofInt 64 (B : Int)).toNat = B := by simp; omega
    rw [BitVec.toNat_or, e1, e2, IntKind.wrap_i64]
    omega
  simp [OpV, execOp, hx, hy, eqGuard, binOp, Op.intBits]
  exact key
/-- 0 or 1, shifted. -/
theorem opv_shl {k : IntKind} (hx : evalE ρ x = .int .i64 a) (hy : evalE ρ y = .int k b) (h : 0 ≤ a ∧ a ≤ 1 ∧ 0 ≤ b ∧ b ≤ 60) :
    OpV P (.binOp .shl t x y t') ty ρ w (.int .i64 ((a.toNat <<< b.toNat : Nat) : Int)) := by
  obtain ⟨A, rfl⟩ := Int.eq_ofNat_of_zero_le h.1
  obtain ⟨B, rfl⟩ := Int.eq_ofNat_of_zero_le h.2.2.1
  have hB : (2 : Nat) ^ B ≤ 2 ^ 60 := Nat.pow_le_pow_right (by omega) (by omega)
  have key : IntKind.i64.wrap ((A : Int) * 2 ^ B) = ((A <<< B : Nat) : Int) := by
    rw [Nat.shiftLeft_eq, IntKind.wrap_i64]
    have e : ((2 : Int) ^ B) = ((2 ^ B : Nat) : Int) := by simp
    rw [e]
    generalize (2 : Nat) ^ B = q at hB
    have hA : A = 0 ∨ A = 1 := by omega
    rcases hA with rfl | rfl
    · simp
    · simp only [Nat.one_mul, Int.natCast_one, Int.one_mul]
      omega
  simp [OpV, execOp, hx, hy, eqGuard, binOp, shift_shl_any, IntKind.bits]
  simpa using key
end Go.Hs
