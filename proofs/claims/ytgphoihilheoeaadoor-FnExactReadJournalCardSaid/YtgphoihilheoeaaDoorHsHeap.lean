/- Blocks of the call's own: made, written, kept. -/
import Derived.Test.YtgphoihilheoeaaDoorHsMem
namespace Go.Hs

/-- Block b holds just these cells, and may be written. -/
def Blk (w : World) (b : Nat) (cs : List Value) : Prop := ∃ t, w.heap[b]? = some (.cells cs.toArray t (0, 0))

/-- What lies from block lo on is as it was. -/
def Keep (lo : Nat) (w w' : World) : Prop := ∀ k, lo ≤ k → k < w.heap.size → w'.heap[k]? = w.heap[k]?

section
variable {w w' w0 : World} {b b' i lo : Nat} {cs cs' : List Value} {v : Value}
theorem Blk.lt (h : Blk w b cs) : b < w.heap.size := by
  obtain ⟨t, h⟩ := h
  rcases Nat.lt_or_ge b w.heap.size with h1 | h1
  · exact h1
  · rw [Array.getElem?_eq_none h1] at h; cases h
theorem Blk.cell (h : Blk w b cs) (hi : cs[i]? = some v) : w.cell? ⟨b, i, none⟩ = some v := by
  obtain ⟨t, h⟩ := h
  simp [World.cell?, h, hi]
theorem Blk.frozen (h : Blk w b cs) : w.frozen? ⟨b, i, none⟩ = false := by
  obtain ⟨t, h⟩ := h
  simp [World.frozen?, h]
theorem Blk.of_heap (h : Blk w b cs) (e : w'.heap[b]? = w.heap[b]?) : Blk w' b cs := by
  obtain ⟨t, h⟩ := h
  exact ⟨t, by rw [e, h]⟩
theorem Blk.ext (h : Blk w b cs) (e : Ext w w') : Blk w' b cs := h.of_heap (e.block b h.lt)
theorem Blk.keep (h : Blk w b cs) (k : Keep lo w w') (hb : lo ≤ b) : Blk w' b cs := h.of_heap (k b hb h.lt)
theorem Blk.set (h : Blk w b cs) (v : Value) : Blk (w.setCell ⟨b, i, none⟩ v) b (cs.set i v) := by
  obtain ⟨t, h⟩ := h
  refine ⟨t, ?_⟩
  simp [World.setCell, Array.getElem?_modify, h]
theorem heap_setCell_other {p : Addr} (v : Value) (hb : b ≠ p.block) : (w.setCell p v).heap[b]? = w.heap[b]? := Go.RowKit.Below.heap_setCell _ _ _ _ hb
theorem Blk.other (h : Blk w b cs) {p : Addr} (v : Value) (hb : b ≠ p.block) : Blk (w.setCell p v) b cs := h.of_heap (heap_setCell_other v hb)
theorem Blk.new (w : World) (cs : List Value) (t : TypeId) : Blk (w.alloc (.cells cs.toArray t)) w.heap.size cs := ⟨t, heap_alloc_new w _⟩

theorem Keep.refl : Keep lo w w := fun _ _ _ => rfl
theorem Keep.mono {lo' : Nat} (h : Keep lo w w') (hl : lo ≤ lo') : Keep lo' w w' := fun k h1 h2 => h k (Nat.le_trans hl h1) h2
theorem Ext.keep (h : Ext w w') : Keep lo w w' := fun k _ h2 => h.block k h2
theorem Keep.setCell {p : Addr} (hp : p.block < lo) (v : Value) : Keep lo w (w.setCell p v) := fun k h1 _ => heap_setCell_other v (by omega)
theorem Keep.trans {w'' : World} (h : Keep lo w w') (hs : w.heap.size ≤ w'.heap.size) (k : Keep lo w' w'') : Keep lo w w'' := fun i h1 h2 => (k i h1 (by omega)).trans (h i h1 h2)
theorem size_setCell (p : Addr) (v : Value) : (w.setCell p v).heap.size = w.heap.size := by simp [World.setCell]
end

/-- It reads as x, by blocks from lo on alone. -/
def Above {α : Type} (lo : Nat) (E : World → Value → α → Prop) (w : World) (v : Value) (x : α) : Prop :=
  ∀ w1, Keep lo w w1 → w.heap.size ≤ w1.heap.size → E w1 v x
section
variable {α : Type} {E : World → Value → α → Prop} {lo : Nat} {w w' : World} {v : Value} {x : α}
theorem Above.here (h : Above lo E w v x) : E w v x := h w Keep.refl (Nat.le_refl _)
theorem Above.keep (h : Above lo E w v x) (k : Keep lo w w') (hs : w.heap.size ≤ w'.heap.size) : Above lo E w' v x := fun w1 k1 h1 => h w1 (k.trans hs k1) (Nat.le_trans hs h1)
theorem Above.mono {lo' : Nat} (h : Above lo E w v x) (hl : lo' ≤ lo) : Above lo' E w v x := fun w1 k h1 => h w1 (k.mono hl) h1
theorem Above.ext (h : Above lo E w v x) (k : Ext w w') : Above lo E w' v x := h.keep k.keep k.size
instance mono_Above : Mono (Above lo E) := ⟨fun e h => h.ext e⟩
end

/-- What a call leaves that hands back new data. -/
def RetF {α : Type} (w : World) (E : World → Value → α → Prop) (x : α) : Value → World → Prop := fun v w' => Ext w w' ∧ Above w.heap.size E w' v x

/-- What a call leaves: one of these values, of which this is known. -/
def RetX {β : Type} (w : World) (val : β → Value) (p : β → World → Prop) : Value → World → Prop := fun v w' => Ext w w' ∧ ∃ y, v = val y ∧ p y w'
theorem Blk.cast {w : World} {b : Nat} {cs cs' : List Value} (h : Blk w b cs) (e : cs = cs') : Blk w b cs' := e ▸ h

theorem Blk.slice {α : Type} {E : World → Value → α → Prop} {w : World} {b c : Nat} {cs : List Value} {xs : List α} (h : Blk w b cs) (hl : cs.length = xs.length) (hm : xs.length ≤ 9223372036854775807)
    (hE : ∀ (i : Nat) (h1 : i < cs.length) (h2 : i < xs.length), E w cs[i] xs[i]) : ESl E w (.slice (some ⟨b, 0, none⟩) xs.length c) xs := by
  refine ⟨_, _, rfl, hm, .inr ⟨b, 0, rfl, fun i hi => ⟨cs[i], ?_, hE i (by omega) hi⟩⟩⟩
  rw [Nat.zero_add]
  exact h.cell (List.getElem?_eq_getElem (by omega))

/-- The very value. -/
def EVal : World → Value → Value → Prop := fun _ v x => v = x
instance mono_EVal : Mono EVal := ⟨fun _ h => h⟩
theorem Blk.vals {w : World} {b c : Nat} {cs : List Value} (h : Blk w b cs) (hm : cs.length ≤ 9223372036854775807) : ESl EVal w (.slice (some ⟨b, 0, none⟩) cs.length c) cs :=
  h.slice rfl hm (fun _ _ _ => rfl)

/-! ### Structs whose fields are one cell each -/
def Flat (P : Program) (t : TypeId) (zs : List Value) : Prop := ∃ fs : Array Field, P.underlying t = some (.struct fs) ∧ (∀ w, (zeroValue t).run P w = .ok (.agg zs.toArray) w) ∧
  ∀ w, (fs.mapM fun (f : Field) => (do pure (f.offset, ← sizeOf f.type) : Sem (Nat × Nat))).run P w = .ok ((List.range zs.length).map fun i => (i, 1)).toArray w

def fillF : List Value → List (Nat × Value) → Option (List Value)
  | cs, [] => some cs
  | cs, (i, v) :: rest => bif isCell v && Nat.blt i cs.length then fillF (cs.set i v) rest else none

theorem fill_eq {k : Nat} {place : Nat → Option (Nat × Nat)} (hpl : ∀ i, i < k → place i = some (i, 1)) : ∀ (ps : List (Nat × Value)) (cs out : List Value), cs.length = k → fillF cs ps = some out →
    Instr.fill place cs.toArray ps = some out.toArray
  | [], cs, out, _, h => by simp [fillF] at h; subst h; rfl
  | (i, v) :: rest, cs, out, hk, h => by
    unfold fillF at h
    cases hc : (isCell v && Nat.blt i cs.length)
    · rw [hc] at h; cases h
    · rw [hc] at h
      simp only [cond_true] at h
      simp only [Bool.and_eq_true] at hc
      have hi : i < cs.length := by simpa using hc.2
      unfold Instr.fill
      rw [hpl i (by omega)]
      have e1 : v.cells = #[v] := isCell_cells hc.1
      simp only [e1, List.size_toArray, List.length_cons, List.length_nil]
      rw [if_neg (by simp; omega)]
      have := fill_eq hpl rest (cs.set i v) out (by simpa using hk) h
      simpa using this

section
variable {P : Program} {n : Nat} {N : Env → World → Prop} {ρ : Env} {w w0 : World} {all : Array Oper} {rest : List Oper}
  {d : Nat} {ty t el : TypeId} {pos : String} {after : Array Edge} {g : Option (Nat × Bool)} {x y : Operand} {v : Value} {zs cs : List Value} {ps : List (Nat × Value)} {b i : Nat}

theorem opv_build {parts : Array (Nat × Operand)} (hF : Flat P t zs) (hp : parts.toList.map (fun p => (p.1, evalE ρ p.2)) = ps) (hc : fillF zs ps = some cs) :
    OpV P (.build t parts) ty ρ w (.agg cs.toArray) := by
  obtain ⟨fs, hund, hzero, hplaces⟩ := hF
  have e : (Array.map (fun x => match x with | (i, x) => (i, evalE ρ x)) parts).toList = ps := by rw [← hp]; simp
  have hz : (Value.agg zs.toArray).cells = zs.toArray := rfl
  have hf := fill_eq (k := zs.length) (place := fun i => (((List.range zs.length).map fun i => (i, 1)).toArray)[i]?) (fun i hi => by simp [hi]) ps zs cs rfl hc
  simp only [OpV, execOp, Instr.build, Sem.run_bind, hzero, Result.andThen_ok, run_und hund, hplaces, hz, e, hf, Sem.run_pure]

theorem Wo_box (hw : wantedE all ⟨some d, .box t x, ty, pos, after, g⟩ ρ = true) (hx : evalE ρ x = v) (hcs : v.cells = cs.toArray)
    (hk : ∀ b w1, w.heap.size ≤ b → Ext w w1 → Blk w1 b cs → Wops P n all rest N (upd ρ d (.pointer (some ⟨b, 0, none⟩))) w1) :
    Wops P n all (⟨some d, .box t x, ty, pos, after, g⟩ :: rest) N ρ w :=
  Wo_w hw (show OpW P (.box t x) ty ρ w (.pointer (some ⟨w.heap.size, 0, none⟩)) (w.alloc (.cells cs.toArray t)) by
    simp [OpW, execOp, hx, Instr.box, newVar, newRow, hcs]) (hk _ _ (Nat.le_refl _) ((Ext.refl w).alloc _) (Blk.new w cs t))

theorem Wo_buildSlice {k : Nat} {parts : Array (Nat × Operand)} {z : Value} (hw : wantedE all ⟨some d, .buildSlice t k parts, ty, pos, after, g⟩ ρ = true) (ht : P.underlying t = some (.slice el)) (hs : ∀ w, (sizeOf el).run P w = .ok 1 w)
    (hz : ∀ w, (zeroValue el).run P w = .ok z w) (h1 : isCell z = true) (hb : (Nat.ble 1 k && Nat.ble k 1000) = true) (hp : parts.toList.map (fun p => (p.1, evalE ρ p.2)) = ps) (hc : fillF (List.replicate k z) ps = some cs)
    (hk : ∀ b w1, w.heap.size ≤ b → Ext w w1 → Blk w1 b cs → Wops P n all rest N (upd ρ d (.slice (some ⟨b, 0, none⟩) k k)) w1) :
    Wops P n all (⟨some d, .buildSlice t k parts, ty, pos, after, g⟩ :: rest) N ρ w := by
  have hb' : 1 ≤ k ∧ k ≤ 1000 := by simpa using hb
  have e : (Array.map (fun x => match x with | (i, x) => (i, evalE ρ x)) parts).toList = ps := by rw [← hp]; simp
  have hr : (Array.map (fun i => (#[z] : Array Value)[i % (#[z] : Array Value).size]!) (Array.range k)) = (List.replicate k z).toArray := by
    apply Array.ext'
    simp only [Array.toList_map, Array.toList_range]
    apply List.ext_getElem
    · simp
    · intro i h1 h2; simp [Nat.mod_one]
  have hf := fill_eq (k := k) (place := fun i => some (i * 1, 1)) (fun i hi => by simp) ps (List.replicate k z) cs (by simp) hc
  have hz0 : z.cells = #[z] := isCell_cells h1
  refine Wo_w hw (show OpW P (.buildSlice t k parts) ty ρ w (.slice (some ⟨w.heap.size, 0, none⟩) k k) (w.alloc (.cells cs.toArray el)) from ?_) (hk _ _ (Nat.le_refl _) ((Ext.refl w).alloc _) (Blk.new w cs el))
  simp only [OpW, execOp, Instr.buildSlice, Sem.run_bind, Result.andThen_ok, run_und ht, hs, Nat.mul_one]
  rw [if_neg (by omega), if_neg (by omega)]
  simp only [Sem.run_bind, hz, Result.andThen_ok, Sem.run_pure, hz0, e]
  rw [hr]
  simp only [Nat.mul_one] at hf
  rw [hf]
  simp [newRow]
theorem Wo_buildSlice0 (hw : wantedE all ⟨some d, .buildSlice t 0 #[], ty, pos, after, g⟩ ρ = true) (ht : P.underlying t = some (.slice el)) (hs : ∀ w, (sizeOf el).run P w = .ok 1 w)
    (hk : ∀ b w1, w.heap.size ≤ b → Ext w w1 → Blk w1 b [] → (∃ cur, w1.heap[b]? = some (.cells cur el (0, 0))) → Wops P n all rest N (upd ρ d (.slice (some ⟨b, 0, none⟩) 0 0)) w1) :
    Wops P n all (⟨some d, .buildSlice t 0 #[], ty, pos, after, g⟩ :: rest) N ρ w := by
  refine Wo_w hw (show OpW P (.buildSlice t 0 #[]) ty ρ w (.slice (some ⟨w.heap.size, 0, none⟩) 0 0) (w.alloc (.cells [].toArray el)) from ?_) (hk _ _ (Nat.le_refl _) ((Ext.refl w).alloc _) (Blk.new w [] el) ⟨_, heap_alloc_new w _⟩)
  simp [OpW, execOp, Instr.buildSlice, run_und ht, hs, newRow, show Array.range 0 = #[] from rfl, Instr.fill]

/-- A store into a block of the call's own. -/
theorem Wo_st (hw : wantedE all ⟨none, .store t x y, ty, pos, after, g⟩ ρ = true) (ht : ∀ w, (sizeOf t).run P w = .ok 1 w) (hx : evalE ρ x = .pointer (some ⟨b, i, none⟩)) (hy : evalE ρ y = v) (hc : isCell v = true)
    (hb : Blk w b cs) (hi : i < cs.length) (h0 : w0.heap.size ≤ b) (hE : Ext w0 w)
    (hk : ∀ w1, Ext w0 w1 → Blk w1 b (cs.set i v) → (∀ k, k ≠ b → w1.heap[k]? = w.heap[k]?) → w1.heap.size = w.heap.size → Wops P n all rest N ρ w1) :
    Wops P n all (⟨none, .store t x y, ty, pos, after, g⟩ :: rest) N ρ w :=
  Wo_store hw (ops_store ht hx hy hc (hb.cell (List.getElem?_eq_getElem hi)) hb.frozen)
    (hk _ (hE.setCell h0 v) (hb.set v) (fun _ h => heap_setCell_other v h) (size_setCell _ _))

theorem run_eq_ptr_nil {a : Option Addr} (ht : P.underlying t = some (.pointer el)) : (Op.equal t (.pointer a) (.pointer none)).run P w = .ok a.isNone w := by
  have key : ∀ k, (Op.equalIn (k + 1) t (.pointer a) (.pointer none)).run P w = .ok a.isNone w := by
    intro k
    cases a <;> simp [Op.equalIn, run_und ht]
  exact key 9999
theorem eqGuard_ptr {op : BinOp} {a b : Option Addr} : (eqGuard op t x y (.pointer a) (.pointer b)).run P w = .ok () w := by
  unfold eqGuard; split <;> simp
theorem opv_eql_ptr {a : Option Addr} (ht : P.underlying t = some (.pointer el)) (hx : evalE ρ x = .pointer a) (hy : evalE ρ y = .pointer none) {t' : TypeId} :
    OpV P (.binOp .eql t x y t') ty ρ w (.bool a.isNone) := by
  simp [OpV, execOp, hx, hy, eqGuard_ptr, binOp, run_eq_ptr_nil ht]
theorem opv_neq_ptr {a : Option Addr} (ht : P.underlying t = some (.pointer el)) (hx : evalE ρ x = .pointer a) (hy : evalE ρ y = .pointer none) {t' : TypeId} :
    OpV P (.binOp .neq t x y t') ty ρ w (.bool (!a.isNone)) := by
  simp [OpV, execOp, hx, hy, eqGuard_ptr, binOp, run_eq_ptr_nil ht]
theorem opv_eql_nil {t' : TypeId} (ht : P.underlying t = some (.pointer el)) (hx : evalE ρ x = .pointer none) (hy : evalE ρ y = .pointer none) : OpV P (.binOp .eql t x y t') ty ρ w (.bool true) := opv_eql_ptr ht hx hy
theorem opv_eql_some {t' : TypeId} {ad : Addr} (ht : P.underlying t = some (.pointer el)) (hx : evalE ρ x = .pointer (some ad)) (hy : evalE ρ y = .pointer none) : OpV P (.binOp .eql t x y t') ty ρ w (.bool false) := opv_eql_ptr ht hx hy
theorem opv_neq_nil {t' : TypeId} (ht : P.underlying t = some (.pointer el)) (hx : evalE ρ x = .pointer none) (hy : evalE ρ y = .pointer none) : OpV P (.binOp .neq t x y t') ty ρ w (.bool false) := opv_neq_ptr ht hx hy
theorem opv_neq_some {t' : TypeId} {ad : Addr} (ht : P.underlying t = some (.pointer el)) (hx : evalE ρ x = .pointer (some ad)) (hy : evalE ρ y = .pointer none) : OpV P (.binOp .neq t x y t') ty ρ w (.bool true) := opv_neq_ptr ht hx hy
end
end Go.Hs
