/- Bytes and texts of one byte. -/
import Derived.Test.YtgphoihilheoeaaDoorHsHeld
import Derived.Laws.BytesArg
set_option linter.unusedVariables false
set_option linter.unusedSimpArgs false
namespace Go.Hs
section
variable {P : Program} {ρ : Env} {w : World} {ty s t e : TypeId} {x : Operand} {k : IntKind} {a : Int} {T : TypeDesc} {b c : Nat}
theorem opv_conv_u8 (hs : P.underlying s = some T) (ht : P.underlying t = some (.int .u8)) (hx : evalE ρ x = .int k a) (h : 0 ≤ a ∧ a ≤ 255) : OpV P (.convert s t x) ty ρ w (.int .u8 a) := by
  have e : IntKind.u8.wrap a = a := by
    simp only [IntKind.wrap, IntKind.bits, IntKind.signed]
    simp
    omega
  have : (convert s t (.int k a)).run P w = .ok (.int .u8 a) w := by simp [convert, run_und hs, run_und ht, Conv.intToInt, e]
  simp [OpV, execOp, hx, this]
theorem opv_sub_u8 {y : Operand} {t' : TypeId} {a' : Int} (hx : evalE ρ x = .int .u8 a) (hy : evalE ρ y = .int .u8 a') (h : 0 ≤ a - a' ∧ a - a' ≤ 255) : OpV P (.binOp .sub t x y t') ty ρ w (.int .u8 (a - a')) := by
  have e : IntKind.u8.wrap (a - a') = a - a' := by
    simp only [IntKind.wrap, IntKind.bits, IntKind.signed]
    simp
    omega
  simp [OpV, execOp, hx, hy, eqGuard, binOp, Op.intArith, e]
theorem opv_conv_b1 (hs : P.underlying s = some (.slice e)) (he : P.underlying e = some (.int .u8)) (ht : P.underlying t = some .string) (hx : evalE ρ x = .slice (some ⟨b, 0, none⟩) 1 c) (hB : Blk w b [.int .u8 a]) :
    OpV P (.convert s t x) ty ρ w (str [UInt8.ofNat a.toNat]) := by
  have h0 : w.cell? ⟨b, 0, none⟩ = some (.int .u8 a) := hB.cell rfl
  have hl : (loadCells ⟨b, 0, none⟩ 1).run P w = .ok ([a].map (Value.int .u8)).toArray w := by simp [loadCells, loadCellsFrom, Addr.add, h0]
  have : (convert s t (.slice (some ⟨b, 0, none⟩) 1 c)).run P w = .ok (str [UInt8.ofNat a.toNat]) w := by
    simp only [convert, Sem.run_bind, run_und hs, run_und ht, run_und he, Result.andThen_ok]
    rw [run_bytesToString w _ _ _ [a] hl]
    rfl
  simp [OpV, execOp, hx, this]
end
end Go.Hs
