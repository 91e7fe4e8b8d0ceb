/- Slices of deeds of the call's own: built, grown, read. -/
import Derived.Test.YtgphoihilheoeaaDoorHsStr3
import Derived.Test.YtgphoihilheoeaaDoorHsOwn
import Derived.Test.YtgphoihilheoeaaDoorHsLit
set_option linter.unusedVariables false
set_option linter.unusedSimpArgs false
namespace Go.Hs
open Go.RowKit (Below)
/-- the cells of deeds -/
def dcs (l : List Deed) : List Value := l.flatMap fun a => [.int .i64 a.kind, str a.text, .int .i64 a.node]
theorem dcs_len (l : List Deed) : (dcs l).length = l.length * 3 := by
  induction l with
  | nil => rfl
  | cons a l ih => simp only [dcs, List.flatMap_cons, List.length_append, List.length_cons, List.length_nil] at ih ⊢; omega
theorem dcs_app (l m : List Deed) : dcs (l ++ m) = dcs l ++ dcs m := by simp [dcs]
theorem dcs_at : ∀ (l : List Deed) (i : Nat) (h : i < l.length), (dcs l)[i * 3]? = some (.int .i64 l[i].kind) ∧ (dcs l)[i * 3 + 1]? = some (str l[i].text) ∧ (dcs l)[i * 3 + 2]? = some (.int .i64 l[i].node)
  | a :: l, 0, _ => ⟨rfl, rfl, rfl⟩
  | a :: l, i + 1, h => by
    have := dcs_at l i (by simpa using h)
    simp only [List.getElem_cons_succ]
    have e : dcs (a :: l) = [.int .i64 a.kind, str a.text, .int .i64 a.node] ++ dcs l := rfl
    have e1 : (i + 1) * 3 = i * 3 + 3 := by omega
    rw [e, e1]
    refine ⟨?_, ?_, ?_⟩
    · rw [List.getElem?_append_right (by simp)]; simpa using this.1
    · rw [List.getElem?_append_right (by simp)]; simpa using this.2.1
    · rw [List.getElem?_append_right (by simp)]; simpa using this.2.2
theorem dcs_one {l : List Deed} {u : Value} (h : u ∈ dcs l) : isCell u = true := by
  obtain ⟨a, _, h⟩ := List.mem_flatMap.1 h
  simp only [List.mem_cons, List.not_mem_nil, or_false] at h
  rcases h with rfl | rfl | rfl <;> rfl
/-- a slice of deeds of the call's own, its block from lo on -/
def OD (e : TypeId) (lo : Nat) (w : World) (v : Value) (l : List Deed) : Prop := w.ownsRow lo e 3 v l.length (dcs l) ∧ ∀ a ∈ l, a.text.length ≤ 9223372036854775807
section
variable {e : TypeId} {lo : Nat} {w w' w0 : World} {v : Value} {l m : List Deed}
theorem OD.ext (h : OD e lo w v l) (k : Ext w w') : OD e lo w' v l :=
  ⟨h.1.kept (row := none) ⟨k.os, k.tape, k.output, k.size, fun i hi _ => k.block i hi⟩ (by cases hv : v.ownBlock <;> simp), h.2⟩
instance : Mono (OD e lo) := ⟨fun k h => h.ext k⟩
theorem OD.nil : OD e lo w (.slice none 0 0) [] := ⟨World.ownsRow_nil w lo e 3, fun a h => by cases h⟩
theorem OD.lt (h : OD e lo w v l) {k : Nat} (hk : v.ownBlock = some k) : lo ≤ k ∧ k < w.heap.size := h.1.lt k hk
theorem OD.read (h : OD e lo w v l) : ESD w v l := by
  have hA := h.1.2
  rcases hA with ⟨rfl, h0⟩ | ⟨g, cap, cur, rfl, hb, hg, hnc, hcm, hcs, ht⟩
  · have : l = [] := List.eq_nil_of_length_eq_zero h0
    subst this
    exact ⟨none, 0, rfl, by simp, .inl rfl⟩
  · refine ⟨_, _, rfl, by unfold maxLen at hcm; omega, .inr ⟨g, 0, rfl, fun i hi => ?_⟩⟩
    obtain ⟨h1, h2, h3⟩ := dcs_at l i hi
    have c0 := h.1.cellAt (i * 3) (by omega)
    have c1 := h.1.cellAt (i * 3 + 1) (by omega)
    have c2 := h.1.cellAt (i * 3 + 2) (by omega)
    rw [Nat.zero_add]
    exact ⟨c0.trans h1, c1.trans h2, c2.trans h3, h.2 _ (List.getElem_mem hi)⟩
theorem OD.blk {b n : Nat} (hb : w.heap[b]? = some (.cells (dcs l).toArray e (0, 0))) (hl : lo ≤ b) (hn : l.length = n) (hm : n ≤ maxLen) (hx : ∀ a ∈ l, a.text.length ≤ 9223372036854775807) : OD e lo w (.slice (some ⟨b, 0, none⟩) n n) l := by
  subst hn
  exact ⟨⟨dcs_len l, .inr ⟨b, l.length, (dcs l).toArray, rfl, hl, hb, Nat.le_refl _, hm, by simp [dcs_len], by rw [List.take_of_length_le (by simp [dcs_len])]⟩⟩, hx⟩
end
/-- a slice of deeds: what the program tells of its types -/
structure ElD (P : Program) (t e : TypeId) : Prop where
  und : P.underlying t = some (.slice e)
  info : ∃ i, P.info? e = some i ∧ i.zero = some (.agg #[.int .i64 0, str [], .int .i64 0]) ∧ i.size = 3 ∧ i.bytes ≤ 64
  size : ∀ w, (sizeOf e).run P w = .ok 3 w
  zero : ∀ w, (zeroValue e).run P w = .ok (.agg #[.int .i64 0, str [], .int .i64 0]) w
theorem ElD.of {P : Program} {t e : TypeId} (hu : P.underlying t = some (.slice e)) (h : (P.info? e).map (fun i => (i.zero, i.size, Nat.ble i.bytes 64)) = some (some (.agg #[.int .i64 0, str [], .int .i64 0]), 3, true))
    (hs : ∀ w, (sizeOf e).run P w = .ok 3 w) (hz : ∀ w, (zeroValue e).run P w = .ok (.agg #[.int .i64 0, str [], .int .i64 0]) w) : ElD P t e := by
  refine ⟨hu, ?_, hs, hz⟩
  cases hi : P.info? e with
  | none => rw [hi] at h; cases h
  | some i =>
    rw [hi] at h
    simp only [Option.map_some, Option.some.injEq, Prod.mk.injEq] at h
    exact ⟨i, rfl, h.1, h.2.1, by simpa using h.2.2⟩
section
variable {P : Program} {n : Nat} {N : Env → World → Prop} {ρ : Env} {w w0 : World} {all : Array Oper} {rest : List Oper} {d : Nat} {ty t el : TypeId} {pos : String} {after : Array Edge} {g : Option (Nat × Bool)} {x y z s : Operand} {v : Value} {l m : List Deed} {lo : Nat} {a1 a2 a3 : Deed}
theorem run_buildD1 (hT : ElD P t el) : (Instr.buildSlice t 1 #[(0, dv a1)]).run P w = .ok (.slice (some ⟨w.heap.size, 0, none⟩) 1 1) (w.alloc (.cells (dcs [a1]).toArray el)) := by
  simp [Instr.buildSlice, run_und hT.und, hT.size, hT.zero, newRow, Instr.fill, dv, Value.cells, dcs, Array.range]
  refine congrArg (fun c => w.alloc (Obj.cells c el)) ?_
  apply Array.ext'
  simp [List.ofFn, Fin.foldr, Fin.foldr.loop]
theorem run_buildD2 (hT : ElD P t el) : (Instr.buildSlice t 2 #[(0, dv a1), (1, dv a2)]).run P w = .ok (.slice (some ⟨w.heap.size, 0, none⟩) 2 2) (w.alloc (.cells (dcs [a1, a2]).toArray el)) := by
  simp [Instr.buildSlice, run_und hT.und, hT.size, hT.zero, newRow, Instr.fill, dv, Value.cells, dcs, Array.range]
  refine congrArg (fun c => w.alloc (Obj.cells c el)) ?_
  apply Array.ext'
  simp [List.ofFn, Fin.foldr, Fin.foldr.loop]
theorem run_buildD3 (hT : ElD P t el) : (Instr.buildSlice t 3 #[(0, dv a1), (1, dv a2), (2, dv a3)]).run P w = .ok (.slice (some ⟨w.heap.size, 0, none⟩) 3 3) (w.alloc (.cells (dcs [a1, a2, a3]).toArray el)) := by
  simp [Instr.buildSlice, run_und hT.und, hT.size, hT.zero, newRow, Instr.fill, dv, Value.cells, dcs, Array.range]
  refine congrArg (fun c => w.alloc (Obj.cells c el)) ?_
  apply Array.ext'
  simp [List.ofFn, Fin.foldr, Fin.foldr.loop]
theorem Wo_buildD0 (hw : wantedE all ⟨some d, .buildSlice t 0 #[], ty, pos, after, g⟩ ρ = true) (hT : ElD P t el)
    (hk : ∀ b w1, w.heap.size ≤ b → Ext w w1 → OD el w.heap.size w1 (.slice (some ⟨b, 0, none⟩) 0 0) [] → Wops P n all rest N (upd ρ d (.slice (some ⟨b, 0, none⟩) 0 0)) w1) :
    Wops P n all (⟨some d, .buildSlice t 0 #[], ty, pos, after, g⟩ :: rest) N ρ w := by
  refine Wo_w hw (show OpW P (.buildSlice t 0 #[]) ty ρ w (.slice (some ⟨w.heap.size, 0, none⟩) 0 0) (w.alloc (.cells (dcs []).toArray el)) from ?_) (hk _ _ (Nat.le_refl _) ((Ext.refl w).alloc _) (OD.blk (heap_alloc_new w _) (Nat.le_refl _) rfl (by unfold maxLen; omega) (fun a h => by cases h)))
  simp [OpW, execOp, Instr.buildSlice, run_und hT.und, hT.size, newRow, show Array.range 0 = #[] from rfl, Instr.fill, dcs]
theorem Wo_buildD1 (hw : wantedE all ⟨some d, .buildSlice t 1 #[(0, x)], ty, pos, after, g⟩ ρ = true) (hT : ElD P t el) (hx : evalE ρ x = dv a1) (h1 : a1.text.length ≤ 9223372036854775807)
    (hk : ∀ b w1, w.heap.size ≤ b → Ext w w1 → OD el w.heap.size w1 (.slice (some ⟨b, 0, none⟩) 1 1) [a1] → Wops P n all rest N (upd ρ d (.slice (some ⟨b, 0, none⟩) 1 1)) w1) :
    Wops P n all (⟨some d, .buildSlice t 1 #[(0, x)], ty, pos, after, g⟩ :: rest) N ρ w := by
  refine Wo_w hw (show OpW P (.buildSlice t 1 #[(0, x)]) ty ρ w (.slice (some ⟨w.heap.size, 0, none⟩) 1 1) (w.alloc (.cells (dcs [a1]).toArray el)) from ?_) (hk _ _ (Nat.le_refl _) ((Ext.refl w).alloc _) (OD.blk (heap_alloc_new w _) (Nat.le_refl _) rfl (by unfold maxLen; omega) (by simpa using h1)))
  simp [OpW, execOp, hx, run_buildD1 hT]
theorem Wo_buildD2 (hw : wantedE all ⟨some d, .buildSlice t 2 #[(0, x), (1, y)], ty, pos, after, g⟩ ρ = true) (hT : ElD P t el) (hx : evalE ρ x = dv a1) (hy : evalE ρ y = dv a2) (h1 : a1.text.length ≤ 9223372036854775807) (h2 : a2.text.length ≤ 9223372036854775807)
    (hk : ∀ b w1, w.heap.size ≤ b → Ext w w1 → OD el w.heap.size w1 (.slice (some ⟨b, 0, none⟩) 2 2) [a1, a2] → Wops P n all rest N (upd ρ d (.slice (some ⟨b, 0, none⟩) 2 2)) w1) :
    Wops P n all (⟨some d, .buildSlice t 2 #[(0, x), (1, y)], ty, pos, after, g⟩ :: rest) N ρ w := by
  refine Wo_w hw (show OpW P (.buildSlice t 2 #[(0, x), (1, y)]) ty ρ w (.slice (some ⟨w.heap.size, 0, none⟩) 2 2) (w.alloc (.cells (dcs [a1, a2]).toArray el)) from ?_) (hk _ _ (Nat.le_refl _) ((Ext.refl w).alloc _) (OD.blk (heap_alloc_new w _) (Nat.le_refl _) rfl (by unfold maxLen; omega) (by simpa using ⟨h1, h2⟩)))
  simp [OpW, execOp, hx, hy, run_buildD2 hT]
theorem Wo_buildD3 (hw : wantedE all ⟨some d, .buildSlice t 3 #[(0, x), (1, y), (2, z)], ty, pos, after, g⟩ ρ = true) (hT : ElD P t el) (hx : evalE ρ x = dv a1) (hy : evalE ρ y = dv a2) (hz : evalE ρ z = dv a3) (h1 : a1.text.length ≤ 9223372036854775807) (h2 : a2.text.length ≤ 9223372036854775807) (h3 : a3.text.length ≤ 9223372036854775807)
    (hk : ∀ b w1, w.heap.size ≤ b → Ext w w1 → OD el w.heap.size w1 (.slice (some ⟨b, 0, none⟩) 3 3) [a1, a2, a3] → Wops P n all rest N (upd ρ d (.slice (some ⟨b, 0, none⟩) 3 3)) w1) :
    Wops P n all (⟨some d, .buildSlice t 3 #[(0, x), (1, y), (2, z)], ty, pos, after, g⟩ :: rest) N ρ w := by
  refine Wo_w hw (show OpW P (.buildSlice t 3 #[(0, x), (1, y), (2, z)]) ty ρ w (.slice (some ⟨w.heap.size, 0, none⟩) 3 3) (w.alloc (.cells (dcs [a1, a2, a3]).toArray el)) from ?_) (hk _ _ (Nat.le_refl _) ((Ext.refl w).alloc _) (OD.blk (heap_alloc_new w _) (Nat.le_refl _) rfl (by unfold maxLen; omega) (by simpa using ⟨h1, h2, h3⟩)))
  simp [OpW, execOp, hx, hy, hz, run_buildD3 hT]
/-- append(list, more...) -/
theorem Wo_appD {b c k lo2 : Nat} (hw : wantedE all ⟨some d, .call { callee := .builtin .append, args := #[s, x], argTypes := #[t, t] }, ty, pos, after, g⟩ ρ = true) (hT : ElD P t el)
    (hv : evalE ρ s = v) (hx : evalE ρ x = .slice (some ⟨b, 0, none⟩) k c) (h : OD el lo w v l) (hy : OD el lo2 w (.slice (some ⟨b, 0, none⟩) k c) m) (hbig : l.length + m.length ≤ 1099511627776) (hlw : lo ≤ w.heap.size) (h0 : Ext w0 w) (hl0 : w0.heap.size ≤ lo)
    (hk : ∀ v' w', OD el lo w' v' (l ++ m) → Ext w0 w' → w.grownBy w' v.ownBlock → Wops P n all rest N (upd ρ d v') w') :
    Wops P n all (⟨some d, .call { callee := .builtin .append, args := #[s, x], argTypes := #[t, t] }, ty, pos, after, g⟩ :: rest) N ρ w := by
  obtain ⟨i, hi, hz, hs, hby⟩ := hT.info
  have hkl : k = m.length := by
    rcases hy.1.2 with ⟨e, _⟩ | ⟨g', cap, cur, e, _⟩
    · cases e
    · injection e
  subst hkl
  have hmul : (l.length + m.length) * i.bytes ≤ 140737488355328 := by have := Nat.mul_le_mul hbig hby; omega
  have hcell : ∀ j u, (dcs m)[j]? = some u → w.cell? ((⟨b, 0, none⟩ : Addr).add j) = some u := hy.1.cells (g := b) rfl
  obtain ⟨v', w', hr, h2, h3, h4⟩ := run_append_own (P := P) w lo t ty el i _ 3 i.bytes hT.und hi hz hs rfl rfl (by omega) v l.length (dcs l) h.1 ⟨b, 0, none⟩ m.length c (dcs m) (dcs_len m) hcell (fun u hu => oneCell_of (dcs_one hu)) (by unfold maxLen; omega) hmul hlw
  have hOD : OD el lo w' v' (l ++ m) := ⟨by rw [List.length_append, dcs_app]; exact h2, fun a ha => (List.mem_append.1 ha).elim (h.2 a) (hy.2 a)⟩
  refine Wo_run (v := v') (w' := w') hw ?_ (hk v' w' hOD ((Only.grownBy (fp := v.ownBlock.toList) h3 (fun k hk => by simp [hk])).ext h0 (fun k hk => ?_)) h3)
  · simp only [execOp, resolve, invoke, builtin, Sem.run_bind, Sem.run_pure, Result.andThen_ok, List.map_toArray, List.map_cons, List.map_nil, hv, hx, hr]
  · have : v.ownBlock = some k := by simpa using hk
    have := (h.lt this).1
    omega
end
end Go.Hs
