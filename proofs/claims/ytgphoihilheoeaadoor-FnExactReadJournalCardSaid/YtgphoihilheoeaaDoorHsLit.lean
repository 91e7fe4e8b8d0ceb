/- A literal slice, with its element's type kept. -/
import Derived.Test.YtgphoihilheoeaaDoorHsSet
set_option linter.unusedVariables false
set_option linter.unusedSimpArgs false
namespace Go.Hs
section
variable {P : Program} {n : Nat} {N : Env → World → Prop} {ρ : Env} {w w0 : World} {all : Array Oper} {rest : List Oper}
  {d : Nat} {ty t el : TypeId} {pos : String} {after : Array Edge} {g : Option (Nat × Bool)} {x y : Operand} {v : Value} {zs cs : List Value} {ps : List (Nat × Value)} {b i : Nat}

theorem Wo_buildSliceH {k : Nat} {parts : Array (Nat × Operand)} {z : Value} (hw : wantedE all ⟨some d, .buildSlice t k parts, ty, pos, after, g⟩ ρ = true) (ht : P.underlying t = some (.slice el)) (hs : ∀ w, (sizeOf el).run P w = .ok 1 w)
    (hz : ∀ w, (zeroValue el).run P w = .ok z w) (h1 : isCell z = true) (hb : (Nat.ble 1 k && Nat.ble k 1000) = true) (hp : parts.toList.map (fun p => (p.1, evalE ρ p.2)) = ps) (hc : fillF (List.replicate k z) ps = some cs)
    (hk : ∀ b w1, w.heap.size ≤ b → Ext w w1 → Blk w1 b cs → w1.heap[b]? = some (.cells cs.toArray el (0, 0)) → Wops P n all rest N (upd ρ d (.slice (some ⟨b, 0, none⟩) k k)) w1) :
    Wops P n all (⟨some d, .buildSlice t k parts, ty, pos, after, g⟩ :: rest) N ρ w := by
  have hb' : 1 ≤ k ∧ k ≤ 1000 := by simpa using hb
  have e : (Array.map (fun x => match x with | (i, x) => (i, evalE ρ x)) parts).toList = ps := by rw [← hp]; simp
  have hr : (Array.map (fun i => (#[z] : Array Value)[i % (#[z] : Array Value).size]!) (Array.range k)) = (List.replicate k z).toArray := by
    apply Array.ext'
    simp only [Array.toList_map, Array.toList_range]
    apply List.ext_getElem
    · simp
    · intro i h1 h2; simp [Nat.mod_one]
  have hf := fill_eq (k := k) (place := fun i => some (i * 1, 1)) (fun i hi => by simp) ps (List.replicate k z) cs (by simp) hc
  have hz0 : z.cells = #[z] := isCell_cells h1
  refine Wo_w hw (show OpW P (.buildSlice t k parts) ty ρ w (.slice (some ⟨w.heap.size, 0, none⟩) k k) (w.alloc (.cells cs.toArray el)) from ?_) (hk _ _ (Nat.le_refl _) ((Ext.refl w).alloc _) (Blk.new w cs el) (heap_alloc_new w _))
  simp only [OpW, execOp, Instr.buildSlice, Sem.run_bind, Result.andThen_ok, run_und ht, hs, Nat.mul_one]
  rw [if_neg (by omega), if_neg (by omega)]
  simp only [Sem.run_bind, hz, Result.andThen_ok, Sem.run_pure, hz0, e]
  rw [hr]
  simp only [Nat.mul_one] at hf
  rw [hf]
  simp [newRow]
end
end Go.Hs
