/- What single operations yield. -/
import Derived.Test.YtgphoihilheoeaaDoorHsCore
import Derived.WalkKit
import Derived.WalkLawsBesides
import Derived.WalkSpells
namespace Go.Hs
open Go.IntWalk
variable {P : Program} {ρ : Env} {w : World} {ty t t' e : TypeId} {x y z c : Operand}

/-- A string of these bytes. -/
abbrev str (l : List UInt8) : Value := .string ⟨l.toArray⟩

theorem run_und {d : TypeDesc} (h : P.underlying t = some d) : (underlying t).run P w = .ok d w := by simp [underlying, program, Sem.run, h]

theorem opv_move {v : Value} (h : evalE ρ x = v) : OpV P (.move x) ty ρ w v := by simp [OpV, execOp, h]
theorem opv_assign {v : Value} (h : evalE ρ x = v) : OpV P (.assign x) ty ρ w v := by simp [OpV, execOp, h]
theorem opv_pick_t {v : Value} (hc : evalE ρ c = .bool true) (h : evalE ρ x = v) : OpV P (.pick c x y) ty ρ w v := by simp [OpV, execOp, hc, h, asBool]
theorem opv_pick_f {v : Value} (hc : evalE ρ c = .bool false) (h : evalE ρ y = v) : OpV P (.pick c x y) ty ρ w v := by simp [OpV, execOp, hc, h, asBool]
theorem opv_not {b : Bool} (h : evalE ρ x = .bool b) : OpV P (.unOp .not t x) ty ρ w (.bool (!b)) := by simp [OpV, execOp, h, Op.unary]
theorem opv_neg {a : Int} (h : evalE ρ x = .int .i64 a) (hb : -9223372036854775807 ≤ a ∧ a ≤ 9223372036854775807) : OpV P (.unOp .neg t x) ty ρ w (.int .i64 (-a)) := by
  simp [OpV, execOp, h, Op.unary, Op.intArith]; exact i64_in _ (by omega)

section ints
variable {k : IntKind} {a b : Int}
theorem opv_add (hx : evalE ρ x = .int .i64 a) (hy : evalE ρ y = .int .i64 b) (h : -9223372036854775808 ≤ a + b ∧ a + b ≤ 9223372036854775807) :
    OpV P (.binOp .add t x y t') ty ρ w (.int .i64 (a + b)) := by simp [OpV, execOp, hx, hy, eqGuard, binOp, Op.intArith]; exact i64_in _ h
theorem opv_sub (hx : evalE ρ x = .int .i64 a) (hy : evalE ρ y = .int .i64 b) (h : -9223372036854775808 ≤ a - b ∧ a - b ≤ 9223372036854775807) :
    OpV P (.binOp .sub t x y t') ty ρ w (.int .i64 (a - b)) := by simp [OpV, execOp, hx, hy, eqGuard, binOp, Op.intArith]; exact i64_in _ h
theorem opv_mul (hx : evalE ρ x = .int .i64 a) (hy : evalE ρ y = .int .i64 b) (h : -9223372036854775808 ≤ a * b ∧ a * b ≤ 9223372036854775807) :
    OpV P (.binOp .mul t x y t') ty ρ w (.int .i64 (a * b)) := by simp [OpV, execOp, hx, hy, eqGuard, binOp, Op.intArith]; exact i64_in _ h
theorem opv_quo (hx : evalE ρ x = .int .i64 a) (hy : evalE ρ y = .int .i64 b) (h : 0 ≤ a ∧ a ≤ 9223372036854775807 ∧ 1 ≤ b) :
    OpV P (.binOp .quo t x y t') ty ρ w (.int .i64 (a / b)) := by
  have h0 : ¬ b = 0 := by omega
  simp [OpV, execOp, hx, hy, eqGuard, binOp, Op.intDiv, h0]; exact i64_quo _ _ h
theorem opv_quo' (hx : evalE ρ x = .int .i64 a) (hy : evalE ρ y = .int .i64 b) (h : -9223372036854775808 ≤ a ∧ a ≤ 9223372036854775807 ∧ 1 ≤ b) :
    OpV P (.binOp .quo t x y t') ty ρ w (.int .i64 (a.tdiv b)) := by
  have h0 : ¬ b = 0 := by omega
  simp [OpV, execOp, hx, hy, eqGuard, binOp, Op.intDiv, h0]; exact i64_quo' _ _ h
theorem opv_rem (hx : evalE ρ x = .int .i64 a) (hy : evalE ρ y = .int .i64 b) (h : 0 ≤ a ∧ 1 ≤ b) :
    OpV P (.binOp .rem t x y t') ty ρ w (.int .i64 (a % b)) := by
  have h0 : ¬ b = 0 := by omega
  simp [OpV, execOp, hx, hy, eqGuard, binOp, Op.intDiv, h0]; exact rem_in _ _ h.1
theorem opv_rem' (hx : evalE ρ x = .int .i64 a) (hy : evalE ρ y = .int .i64 b) (h : b ≠ 0) :
    OpV P (.binOp .rem t x y t') ty ρ w (.int .i64 (a.tmod b)) := by
  simp [OpV, execOp, hx, hy, eqGuard, binOp, Op.intDiv, h]
theorem opv_lss (hx : evalE ρ x = .int k a) (hy : evalE ρ y = .int k b) : OpV P (.binOp .lss t x y t') ty ρ w (.bool (decide (a < b))) := by simp [OpV, execOp, hx, hy, eqGuard, binOp, Op.intCmp]
theorem opv_leq (hx : evalE ρ x = .int k a) (hy : evalE ρ y = .int k b) : OpV P (.binOp .leq t x y t') ty ρ w (.bool (decide (a ≤ b))) := by simp [OpV, execOp, hx, hy, eqGuard, binOp, Op.intCmp]
theorem opv_gtr (hx : evalE ρ x = .int k a) (hy : evalE ρ y = .int k b) : OpV P (.binOp .gtr t x y t') ty ρ w (.bool (decide (b < a))) := by simp [OpV, execOp, hx, hy, eqGuard, binOp, Op.intCmp]
theorem opv_geq (hx : evalE ρ x = .int k a) (hy : evalE ρ y = .int k b) : OpV P (.binOp .geq t x y t') ty ρ w (.bool (decide (b ≤ a))) := by simp [OpV, execOp, hx, hy, eqGuard, binOp, Op.intCmp]
theorem opv_eql (hx : evalE ρ x = .int k a) (hy : evalE ρ y = .int k b) : OpV P (.binOp .eql t x y t') ty ρ w (.bool (decide (a = b))) := by
  simp [OpV, execOp, hx, hy, eqGuard, binOp, Op.intCmp]
  by_cases h : a = b
  · simp [h]
  · rw [decide_eq_false h]; simpa using h
theorem opv_neq (hx : evalE ρ x = .int k a) (hy : evalE ρ y = .int k b) : OpV P (.binOp .neq t x y t') ty ρ w (.bool (!decide (a = b))) := by
  simp [OpV, execOp, hx, hy, eqGuard, binOp, Op.intCmp]
  by_cases h : a = b
  · simp [h]
  · simp [h]
theorem opv_max (hx : evalE ρ x = .int k a) (hy : evalE ρ y = .int k b) {ts : Array TypeId} : OpV P (.call { callee := .builtin .max, args := #[x, y], argTypes := ts }) ty ρ w (.int k (max a b)) := by
  simp [OpV, execOp, resolve, hx, hy, invoke, builtin, Builtin.max_, Builtin.max2]
  split <;> omega
theorem opv_min (hx : evalE ρ x = .int k a) (hy : evalE ρ y = .int k b) {ts : Array TypeId} : OpV P (.call { callee := .builtin .min, args := #[x, y], argTypes := ts }) ty ρ w (.int k (min a b)) := by
  simp [OpV, execOp, resolve, hx, hy, invoke, builtin, Builtin.min_, Builtin.min2]
  split <;> omega
end ints

section bools
variable {a b : Bool}
theorem eqGuard_bool (op : BinOp) : (eqGuard op t x y (.bool a) (.bool b)).run P w = .ok () w := by
  unfold eqGuard; split <;> simp
theorem run_eq_bool (ht : P.underlying t = some .bool) : (Op.equal t (.bool a) (.bool b)).run P w = .ok (a == b) w := by
  have key : ∀ k, (Op.equalIn (k + 1) t (.bool a) (.bool b)).run P w = .ok (a == b) w := by
    intro k
    simp [Op.equalIn, run_und ht]
  exact key 9999
theorem opv_eql_bool (ht : P.underlying t = some .bool) (hx : evalE ρ x = .bool a) (hy : evalE ρ y = .bool b) : OpV P (.binOp .eql t x y t') ty ρ w (.bool (decide (a = b))) := by
  simp [OpV, execOp, hx, hy, eqGuard_bool, binOp, run_eq_bool ht]; cases a <;> cases b <;> rfl
theorem opv_neq_bool (ht : P.underlying t = some .bool) (hx : evalE ρ x = .bool a) (hy : evalE ρ y = .bool b) : OpV P (.binOp .neq t x y t') ty ρ w (.bool (!decide (a = b))) := by
  simp [OpV, execOp, hx, hy, eqGuard_bool, binOp, run_eq_bool ht]; cases a <;> cases b <;> rfl
end bools

section strings
variable {a b : List UInt8}
theorem opv_len_str {ts : TypeId} (ht : P.underlying ts = some .string) (hx : evalE ρ x = .string ⟨a.toArray⟩) :
    OpV P (.call { callee := .builtin .len, args := #[x], argTypes := #[ts] }) ty ρ w (.int .i64 (a.length : Int)) := by
  simp [OpV, execOp, resolve, hx, invoke, builtin, Builtin.len_, run_und ht, goInt]; try rfl
theorem opv_index_str {ts : TypeId} {k : Nat} (ht : P.underlying ts = some .string) (hx : evalE ρ x = .string ⟨a.toArray⟩) (hy : evalE ρ y = .int .i64 (k : Int)) (hk : k < a.length) :
    OpV P (.index ts x y) ty ρ w (.int .u8 ((a.getD k 0).toNat : Int)) := by
  have : (⟨a.toArray⟩ : ByteArray)[k]? = some (a.getD k 0) := by
    show (if h : k < (⟨a.toArray⟩ : ByteArray).size then _ else _) = _
    have hs : k < (⟨a.toArray⟩ : ByteArray).size := by show k < a.toArray.size; simpa using hk
    rw [dif_pos hs]
    simp [List.getD_eq_getElem?_getD, hk]
    rfl
  simp [OpV, execOp, hx, hy, Instr.index, asIntOf, run_und ht, this]
theorem size_mk (l : List UInt8) : (⟨l.toArray⟩ : ByteArray).size = l.length := rfl
theorem toList_mk (l : List UInt8) : (⟨l.toArray⟩ : ByteArray).toList = l := by simp
theorem opv_eql_str (hx : evalE ρ x = .string ⟨a.toArray⟩) (hy : evalE ρ y = .string ⟨b.toArray⟩) : OpV P (.binOp .eql t x y t') ty ρ w (.bool (decide (a = b))) := by
  simp [OpV, execOp, hx, hy, eqGuard, binOp, Op.stringOp]
  by_cases h : a = b
  · simp [h]
  · rw [decide_eq_false h]; simpa using h
theorem opv_neq_str (hx : evalE ρ x = .string ⟨a.toArray⟩) (hy : evalE ρ y = .string ⟨b.toArray⟩) : OpV P (.binOp .neq t x y t') ty ρ w (.bool (!decide (a = b))) := by
  simp [OpV, execOp, hx, hy, eqGuard, binOp, Op.stringOp]
  by_cases h : a = b
  · simp [h]
  · simp [h]
theorem opv_lss_str (hx : evalE ρ x = .string ⟨a.toArray⟩) (hy : evalE ρ y = .string ⟨b.toArray⟩) : OpV P (.binOp .lss t x y t') ty ρ w (.bool (Op.bytesLess a b)) := by
  simp [OpV, execOp, hx, hy, eqGuard, binOp, Op.stringOp]
theorem append_mk (a b : List UInt8) : (⟨a.toArray⟩ : ByteArray) ++ ⟨b.toArray⟩ = ⟨(a ++ b).toArray⟩ := by
  apply ByteArray.ext; simp [ByteArray.data_append]
theorem opv_add_str (hx : evalE ρ x = .string ⟨a.toArray⟩) (hy : evalE ρ y = .string ⟨b.toArray⟩) (h : a.length + b.length ≤ 9223372036854775807) :
    OpV P (.binOp .add t x y t') ty ρ w (.string ⟨(a ++ b).toArray⟩) := by
  have h' : ¬ ((a.length + b.length : Nat) : Int) > IntKind.i64.max := by show ¬ ((a.length + b.length : Nat) : Int) > 9223372036854775807; omega
  simp only [OpV, execOp, hx, hy, eqGuard, binOp, Op.stringOp, size_mk, append_mk, h', if_false]
  simp
theorem extract_mk (a : List UInt8) (l h : Nat) : (⟨a.toArray⟩ : ByteArray).extract l h = ⟨((a.drop l).take (h - l)).toArray⟩ := by
  apply ByteArray.ext
  simp [ByteArray.data_extract, List.extract_eq_take_drop]
theorem opv_slice_str {ts : TypeId} {lo hi : Operand} {l h : Nat} (ht : P.underlying ts = some .string) (hx : evalE ρ x = .string ⟨a.toArray⟩) (hl : evalE ρ lo = .int .i64 (l : Int)) (hh : evalE ρ hi = .int .i64 (h : Int))
    (hb : l ≤ h ∧ h ≤ a.length) : OpV P (.slice ts x (some lo) (some hi) none) ty ρ w (.string ⟨((a.drop l).take (h - l)).toArray⟩) := by
  have h1 := hb.1
  have h2 := hb.2
  simp [OpV, execOp, hx, hl, hh, Instr.sliceAt, Instr.slice, run_und ht, Instr.sliceBounds, Instr.sliceBound, asIntOf, size_mk, h1, h2, extract_mk]
theorem opv_slice_str_lo {ts : TypeId} {lo : Operand} {l : Nat} (ht : P.underlying ts = some .string) (hx : evalE ρ x = .string ⟨a.toArray⟩) (hl : evalE ρ lo = .int .i64 (l : Int))
    (hb : l ≤ a.length) : OpV P (.slice ts x (some lo) none none) ty ρ w (.string ⟨(a.drop l).toArray⟩) := by
  have e : (a.drop l).take (a.length - l) = a.drop l := List.take_of_length_le (by simp)
  simp [OpV, execOp, hx, hl, Instr.sliceAt, Instr.slice, run_und ht, Instr.sliceBounds, Instr.sliceBound, asIntOf, size_mk, hb, extract_mk, e]
theorem opv_slice_str_hi {ts : TypeId} {hi : Operand} {h : Nat} (ht : P.underlying ts = some .string) (hx : evalE ρ x = .string ⟨a.toArray⟩) (hh : evalE ρ hi = .int .i64 (h : Int))
    (hb : h ≤ a.length) : OpV P (.slice ts x none (some hi) none) ty ρ w (.string ⟨(a.take h).toArray⟩) := by
  simp [OpV, execOp, hx, hh, Instr.sliceAt, Instr.slice, run_und ht, Instr.sliceBounds, Instr.sliceBound, asIntOf, size_mk, hb, extract_mk]
theorem toNat_cast {z : Int} (h : 0 ≤ z) : ((z.toNat : Nat) : Int) = z := Int.toNat_of_nonneg h
theorem opv_index_str_z {ts : TypeId} {z : Int} (ht : P.underlying ts = some .string) (hx : evalE ρ x = .string ⟨a.toArray⟩) (hy : evalE ρ y = .int .i64 z) (hk : 0 ≤ z ∧ z < a.length) :
    OpV P (.index ts x y) ty ρ w (.int .u8 ((a.getD z.toNat 0).toNat : Int)) := opv_index_str ht hx (by rw [hy, toNat_cast hk.1]) (by omega)
theorem opv_slice_str_z {ts : TypeId} {lo hi : Operand} {l h : Int} (ht : P.underlying ts = some .string) (hx : evalE ρ x = .string ⟨a.toArray⟩) (hl : evalE ρ lo = .int .i64 l) (hh : evalE ρ hi = .int .i64 h)
    (hb : 0 ≤ l ∧ l ≤ h ∧ h ≤ a.length) : OpV P (.slice ts x (some lo) (some hi) none) ty ρ w (.string ⟨((a.drop l.toNat).take (h.toNat - l.toNat)).toArray⟩) :=
  opv_slice_str ht hx (by rw [hl, toNat_cast hb.1]) (by rw [hh, toNat_cast (by omega)]) (by omega)
theorem opv_slice_str_lo_z {ts : TypeId} {lo : Operand} {l : Int} (ht : P.underlying ts = some .string) (hx : evalE ρ x = .string ⟨a.toArray⟩) (hl : evalE ρ lo = .int .i64 l)
    (hb : 0 ≤ l ∧ l ≤ a.length) : OpV P (.slice ts x (some lo) none none) ty ρ w (.string ⟨(a.drop l.toNat).toArray⟩) :=
  opv_slice_str_lo ht hx (by rw [hl, toNat_cast hb.1]) (by omega)
theorem opv_slice_str_hi_z {ts : TypeId} {hi : Operand} {h : Int} (ht : P.underlying ts = some .string) (hx : evalE ρ x = .string ⟨a.toArray⟩) (hh : evalE ρ hi = .int .i64 h)
    (hb : 0 ≤ h ∧ h ≤ a.length) : OpV P (.slice ts x none (some hi) none) ty ρ w (.string ⟨(a.take h.toNat).toArray⟩) :=
  opv_slice_str_hi ht hx (by rw [hh, toNat_cast hb.1]) (by omega)
end strings

section slices
variable {a : Option Addr} {len cap k : Nat} {ts el : TypeId}
theorem opv_len_slice (ht : P.underlying ts = some (.slice el)) (hx : evalE ρ x = .slice a len cap) :
    OpV P (.call { callee := .builtin .len, args := #[x], argTypes := #[ts] }) ty ρ w (.int .i64 (len : Int)) := by
  simp [OpV, execOp, resolve, hx, invoke, builtin, Builtin.len_, run_und ht, goInt]
theorem opv_indexAddr {b o : Nat} (ht : P.underlying ts = some (.slice el)) (hs : ∀ w, (sizeOf el).run P w = .ok 1 w) (hx : evalE ρ x = .slice (some ⟨b, o, none⟩) len cap) (hy : evalE ρ y = .int .i64 (k : Int)) (hk : k < len) :
    OpV P (.indexAddr ts x y) ty ρ w (.pointer (some ⟨b, o + k, none⟩)) := by
  simp [OpV, execOp, hx, hy, Instr.indexAt, asIntOf, run_und ht, hs, hk]
  unfold Addr.add; split
  · simp_all
  · rfl
theorem opv_load {ad : Addr} {v : Value} {tl : TypeId} (ht : ∀ w, (isAgg tl).run P w = .ok false w) (hx : evalE ρ x = .pointer (some ad)) (hc : w.cell? ad = some v) :
    OpV P (.load tl x) ty ρ w v := by
  simp [OpV, execOp, hx, Instr.loadAt, Instr.sureAddr, loadVar, ht, hc]
def isCell : Value → Bool
  | .agg _ => false
  | .tuple _ => false
  | _ => true
theorem isCell_cells {v : Value} (h : isCell v = true) : v.cells = #[v] := by cases v <;> first | rfl | cases h
theorem run_store_cell {ad : Addr} {v v0 : Value} (h1 : isCell v = true) (hc : w.cell? ad = some v0) (hf : w.frozen? ad = false) (m : Mode) : (store ad v m).run P w = .ok () (w.setCell ad v) := by
  cases v <;> first | (simp [store, Sem.run, hc, hf]; done) | (exact absurd h1 (by simp [isCell]))
theorem ops_store {ad : Addr} {v v0 : Value} {tl : TypeId} (ht : ∀ w, (sizeOf tl).run P w = .ok 1 w) (hx : evalE ρ x = .pointer (some ad)) (hy : evalE ρ y = v) (h1 : isCell v = true) (hc : w.cell? ad = some v0) (hf : w.frozen? ad = false) :
    OpS P (.store tl x y) ty ρ w (w.setCell ad v) := by
  have h2 := isCell_cells h1
  simp [OpS, execOp, hx, hy, Instr.storeAt, Instr.sureAddr, storeVar, ht, h2, storeCells, Addr.add, run_store_cell h1 hc hf]
theorem opv_nilCheck {ad : Addr} (hx : evalE ρ x = .pointer (some ad)) : OpV P (.nilCheck x) ty ρ w (.pointer (some ad)) := by
  simp [OpV, execOp, hx]
theorem opv_fieldAddr {s : TypeId} {fs : Array Field} {f : Field} {i b o m : Nat} (ht : P.underlying s = some (.struct fs)) (hf : fs[i]? = some f) (hfi : f.offset = i) (hs : ∀ w, (sizeOf f.type).run P w = .ok (m + 1) w) (hx : evalE ρ x = .pointer (some ⟨b, o, none⟩)) :
    OpV P (.fieldAddr s x i) ty ρ w (.pointer (some ⟨b, o + i, none⟩)) := by
  simp [OpV, execOp, hx, Instr.fieldAt, run_und ht, Instr.sureAddr, hf, fieldPlace, hs, hfi]
  unfold Addr.add; split
  · simp_all
  · rfl
theorem opv_makeFunc {fn : Fn} {first cap : Array Operand} {v1 v2 : List Value} (h1 : first.toList.map (evalE ρ) = v1) (h2 : cap.toList.map (evalE ρ) = v2) : OpV P (.makeFunc fn first cap) ty ρ w (.func fn v1.toArray v2.toArray) := by
  subst h1; subst h2
  simp [OpV, execOp, Instr.makeFunc]
  constructor <;> (apply Array.ext'; simp)
theorem opv_extract {vs : List Value} {i : Nat} {v : Value} (hx : evalE ρ x = .tuple vs.toArray) (hv : vs[i]? = some v) : OpV P (.extract x i) ty ρ w v := by
  simp [OpV, execOp, hx, Instr.extract, hv]
end slices
end Go.Hs
