/- How values read as data in a world, and what stays when the world grows. -/
import Derived.Test.YtgphoihilheoeaaDoorHsOps
namespace Go.Hs

/-- The bound on a slice's length that Go's own memory gives. -/
def lim : Nat := 140737488355328

section
variable {α : Type} {E : World → Value → α → Prop} {w w' : World} {a : Option Addr} {xs : List α} {v : Value}
/-- From this address on the cells hold these, one behind the other. -/
def RSl (E : World → Value → α → Prop) (w : World) (a : Option Addr) (xs : List α) : Prop :=
  xs.length ≤ 9223372036854775807 ∧ (xs = [] ∨ ∃ b o, a = some ⟨b, o, none⟩ ∧ ∀ i (h : i < xs.length), ∃ u, w.cell? ⟨b, o + i, none⟩ = some u ∧ E w u xs[i])
/-- A slice that reads as this list. -/
def ESl (E : World → Value → α → Prop) (w : World) (v : Value) (xs : List α) : Prop := ∃ a c, v = .slice a xs.length c ∧ RSl E w a xs

class Mono {α : Type} (E : World → Value → α → Prop) : Prop where
  mono : ∀ {w w' : World} {v : Value} {x : α}, Ext w w' → E w v x → E w' v x

theorem RSl.mono [hE : Mono E] (he : Ext w w') (h : RSl E w a xs) : RSl E w' a xs := by
  refine ⟨h.1, h.2.imp id ?_⟩
  rintro ⟨b, o, ha, hc⟩
  refine ⟨b, o, ha, fun i hi => ?_⟩
  obtain ⟨u, h1, h2⟩ := hc i hi
  exact ⟨u, he.cell h1, hE.mono he h2⟩
instance mono_ESl [Mono E] : Mono (ESl E) := ⟨by
  rintro w w' v xs he ⟨a, c, rfl, h⟩
  exact ⟨a, c, rfl, h.mono he⟩⟩
theorem ESl.le (h : ESl E w v xs) : xs.length ≤ 9223372036854775807 := by obtain ⟨_, _, _, h⟩ := h; exact h.1
theorem RSl.le (h : RSl E w a xs) : xs.length ≤ 9223372036854775807 := h.1
theorem RSl.at (h : RSl E w a xs) {i : Nat} (hi : i < xs.length) : ∃ b o u, a = some ⟨b, o, none⟩ ∧ w.cell? ⟨b, o + i, none⟩ = some u ∧ E w u xs[i] := by
  rcases h.2 with rfl | ⟨b, o, ha, hc⟩
  · cases hi
  · obtain ⟨u, h1, h2⟩ := hc i hi
    exact ⟨b, o, u, ha, h1, h2⟩
theorem RSl.nil : RSl E w a [] := ⟨Nat.zero_le _, .inl rfl⟩
end

def EInt : World → Value → Int → Prop := fun _ v x => v = .int .i64 x
def EByte : World → Value → UInt8 → Prop := fun _ v x => v = .int .u8 (x.toNat : Int)
def EBool : World → Value → Bool → Prop := fun _ v x => v = .bool x
def EStr : World → Value → List UInt8 → Prop := fun _ v x => v = .string ⟨x.toArray⟩ ∧ x.length ≤ 9223372036854775807
abbrev Ints := ESl EInt
abbrev Bytes := ESl EByte
abbrev Bools := ESl EBool
abbrev Strs := ESl EStr
abbrev Rows := ESl Ints
abbrev Rowss := ESl Rows
instance mono_EInt : Mono EInt := ⟨fun _ h => h⟩
instance mono_EByte : Mono EByte := ⟨fun _ h => h⟩
instance mono_EBool : Mono EBool := ⟨fun _ h => h⟩
instance mono_EStr : Mono EStr := ⟨fun _ h => h⟩

section
variable {P : Program} {ρ : Env} {w w0 : World} {ty ts el : TypeId} {x : Operand} {α : Type} {E : World → Value → α → Prop} {xs : List α} {v : Value}
theorem opv_len (ht : P.underlying ts = some (.slice el)) (hx : evalE ρ x = v) (h : ESl E w0 v xs) :
    OpV P (.call { callee := .builtin .len, args := #[x], argTypes := #[ts] }) ty ρ w (.int .i64 (xs.length : Int)) := by
  obtain ⟨a, c, rfl, _⟩ := h
  exact opv_len_slice ht hx
end

/-! ### Two operations at once: xs[i] -/
section
variable {P : Program} {n : Nat} {N : Env → World → Prop} {ρ : Env} {w w0 : World} {all : Array Oper} {rest : List Oper}
  {d d2 : Nat} {ty ty2 t el tl : TypeId} {pos pos2 : String} {after after2 : Array Edge} {g g2 : Option (Nat × Bool)} {x y : Operand} {k : Nat}
theorem Wo_get {α : Type} {E : World → Value → α → Prop} {xs : List α} (ht : P.underlying t = some (.slice el)) (hs : ∀ w, (sizeOf el).run P w = .ok 1 w) (hta : ∀ w, (isAgg tl).run P w = .ok false w)
    (hw : wantedE all ⟨some d, .indexAddr t x y, ty, pos, after, g⟩ ρ = true)
    (hw2 : ∀ v, wantedE all ⟨some d2, .load tl (.tmp d), ty2, pos2, after2, g2⟩ (upd ρ d v) = true)
    {v : Value} (hx : evalE ρ x = v) (hR : ESl E w0 v xs) (hE : Ext w0 w) (hy : evalE ρ y = .int .i64 (k : Int)) (hk : k < xs.length)
    (hk' : ∀ ad u, E w0 u xs[k] → Wops P n all rest N (upd (upd ρ d (.pointer (some ad))) d2 u) w) :
    Wops P n all (⟨some d, .indexAddr t x y, ty, pos, after, g⟩ :: ⟨some d2, .load tl (.tmp d), ty2, pos2, after2, g2⟩ :: rest) N ρ w := by
  obtain ⟨a, c, rfl, hR⟩ := hR
  obtain ⟨b, o, u, rfl, hc, hu⟩ := hR.at hk
  refine Wo hw (opv_indexAddr ht hs hx hy hk) ?_
  refine Wo (hw2 _) (opv_load hta ?_ (hE.cell hc)) (hk' _ u hu)
  show upd ρ d _ d = _
  unfold upd; rw [Nat.beq_refl]; rfl
theorem Wo_get_z {α : Type} {E : World → Value → α → Prop} {xs : List α} (ht : P.underlying t = some (.slice el)) (hs : ∀ w, (sizeOf el).run P w = .ok 1 w) (hta : ∀ w, (isAgg tl).run P w = .ok false w)
    (hw : wantedE all ⟨some d, .indexAddr t x y, ty, pos, after, g⟩ ρ = true)
    (hw2 : ∀ v, wantedE all ⟨some d2, .load tl (.tmp d), ty2, pos2, after2, g2⟩ (upd ρ d v) = true)
    {v : Value} (hx : evalE ρ x = v) (hR : ESl E w0 v xs) (hE : Ext w0 w) {z : Int} (hy : evalE ρ y = .int .i64 z) (hk : 0 ≤ z ∧ z.toNat < xs.length)
    (hk' : ∀ ad u, E w0 u xs[z.toNat] → Wops P n all rest N (upd (upd ρ d (.pointer (some ad))) d2 u) w) :
    Wops P n all (⟨some d, .indexAddr t x y, ty, pos, after, g⟩ :: ⟨some d2, .load tl (.tmp d), ty2, pos2, after2, g2⟩ :: rest) N ρ w :=
  Wo_get ht hs hta hw hw2 hx hR hE (by rw [hy, toNat_cast hk.1]) hk.2 hk'
end
section
variable {P : Program} {n : Nat} {N : Env → World → Prop} {X : Nat → Env → World → Prop} {R : Env → World → Prop} {M : Env → Prop} {ρ : Env} {w w0 : World} {all : Array Oper} {rest : List Oper}
  {d d2 : Nat} {op : Op} {ty ty2 t el tl : TypeId} {pos pos2 : String} {after after2 : Array Edge} {g g2 : Option (Nat × Bool)} {x y : Operand} {k : Nat}
theorem Wq_get {α : Type} {E : World → Value → α → Prop} {xs : List α} (ht : P.underlying t = some (.slice el)) (hs : ∀ w, (sizeOf el).run P w = .ok 1 w) (hta : ∀ w, (isAgg tl).run P w = .ok false w)
    (hw : wantedE all ⟨some d, .indexAddr t x y, ty, pos, after, g⟩ ρ = true)
    (hw2 : ∀ v, wantedE all ⟨some d2, .load tl (.tmp d), ty2, pos2, after2, g2⟩ (upd ρ d v) = true)
    {v : Value} (hx : evalE ρ x = v) (hR : ESl E w0 v xs) (hE : Ext w0 w) (hy : evalE ρ y = .int .i64 (k : Int)) (hk : k < xs.length)
    (hk' : ∀ ad u, E w0 u xs[k] → Wq P n all w rest M (upd (upd ρ d (.pointer (some ad))) d2 u)) :
    Wq P n all w (⟨some d, .indexAddr t x y, ty, pos, after, g⟩ :: ⟨some d2, .load tl (.tmp d), ty2, pos2, after2, g2⟩ :: rest) M ρ := by
  obtain ⟨a, c, rfl, hR⟩ := hR
  obtain ⟨b, o, u, rfl, hc, hu⟩ := hR.at hk
  refine Wq_o hw (fun _ _ => opv_indexAddr ht hs hx hy hk) ?_
  refine Wq_o (hw2 _) (fun w' hw' => opv_load hta ?_ ((hE.trans hw').cell hc)) (hk' _ u hu)
  show upd ρ d _ d = _
  unfold upd; rw [Nat.beq_refl]; rfl
theorem Wq_get_z {α : Type} {E : World → Value → α → Prop} {xs : List α} (ht : P.underlying t = some (.slice el)) (hs : ∀ w, (sizeOf el).run P w = .ok 1 w) (hta : ∀ w, (isAgg tl).run P w = .ok false w)
    (hw : wantedE all ⟨some d, .indexAddr t x y, ty, pos, after, g⟩ ρ = true)
    (hw2 : ∀ v, wantedE all ⟨some d2, .load tl (.tmp d), ty2, pos2, after2, g2⟩ (upd ρ d v) = true)
    {v : Value} (hx : evalE ρ x = v) (hR : ESl E w0 v xs) (hE : Ext w0 w) {z : Int} (hy : evalE ρ y = .int .i64 z) (hk : 0 ≤ z ∧ z.toNat < xs.length)
    (hk' : ∀ ad u, E w0 u xs[z.toNat] → Wq P n all w rest M (upd (upd ρ d (.pointer (some ad))) d2 u)) :
    Wq P n all w (⟨some d, .indexAddr t x y, ty, pos, after, g⟩ :: ⟨some d2, .load tl (.tmp d), ty2, pos2, after2, g2⟩ :: rest) M ρ :=
  Wq_get ht hs hta hw hw2 hx hR hE (by rw [hy, toNat_cast hk.1]) hk.2 hk'
end
end Go.Hs
