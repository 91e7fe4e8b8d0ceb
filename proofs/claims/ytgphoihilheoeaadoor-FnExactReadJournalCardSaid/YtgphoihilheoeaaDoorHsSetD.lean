/- Slices of deeds of the call's own: made, written, marked. -/
import Derived.Test.YtgphoihilheoeaaDoorHsOwnD
set_option linter.unusedVariables false
set_option linter.unusedSimpArgs false
namespace Go.Hs
theorem dcs_set0 : ∀ (l : List Deed) (k : Nat) (h : k < l.length) (x : Int), (dcs l).set (k * 3) (.int .i64 x) = dcs (l.set k ⟨x, l[k].text, l[k].node⟩)
  | a :: l, 0, _, x => rfl
  | a :: l, k + 1, h, x => by
    have e : (k + 1) * 3 = k * 3 + 3 := by omega
    rw [e]
    show _ :: _ :: _ :: (dcs l).set (k * 3) _ = _
    rw [dcs_set0 l k (by simpa using h)]
    rfl
theorem dcs_set1 : ∀ (l : List Deed) (k : Nat) (h : k < l.length) (x : List UInt8), (dcs l).set (k * 3 + 1) (str x) = dcs (l.set k ⟨l[k].kind, x, l[k].node⟩)
  | a :: l, 0, _, x => rfl
  | a :: l, k + 1, h, x => by
    have e : (k + 1) * 3 + 1 = k * 3 + 1 + 3 := by omega
    rw [e]
    show _ :: _ :: _ :: (dcs l).set (k * 3 + 1) _ = _
    rw [dcs_set1 l k (by simpa using h)]
    rfl
theorem dcs_set2 : ∀ (l : List Deed) (k : Nat) (h : k < l.length) (x : Int), (dcs l).set (k * 3 + 2) (.int .i64 x) = dcs (l.set k ⟨l[k].kind, l[k].text, x⟩)
  | a :: l, 0, _, x => rfl
  | a :: l, k + 1, h, x => by
    have e : (k + 1) * 3 + 2 = k * 3 + 2 + 3 := by omega
    rw [e]
    show _ :: _ :: _ :: (dcs l).set (k * 3 + 2) _ = _
    rw [dcs_set2 l k (by simpa using h)]
    rfl
section
variable {e : TypeId} {lo : Nat} {w w' w0 : World} {v : Value} {l m : List Deed} {b n c k : Nat} {u : Value}
theorem OD.lit (h : OD e lo w v l) (hp : 0 < l.length) : ∃ b c, v = .slice (some ⟨b, 0, none⟩) l.length c := by
  rcases h.1.2 with ⟨rfl, h0⟩ | ⟨g, cap, cur, rfl, _⟩
  · omega
  · exact ⟨_, _, rfl⟩
theorem OD.len (h : OD e lo w (.slice (some ⟨b, 0, none⟩) n c) l) : n = l.length := by
  rcases h.1.2 with ⟨h0, _⟩ | ⟨g, cap, cur, h0, _⟩
  · cases h0
  · injection h0
theorem OD.le (h : OD e lo w v l) : l.length ≤ 9223372036854775807 := h.read.le
theorem OD.free (h : OD e lo w (.slice (some ⟨b, 0, none⟩) n c) l) (j : Nat) : w.frozen? ⟨b, j, none⟩ = false := by
  rcases h.1.2 with ⟨h0, _⟩ | ⟨g, cap, cur, h0, _, hg, _⟩
  · cases h0
  · injection h0 with h1 h2 h3
    injection h1 with h1
    injection h1 with h1 _ _
    subst h1
    simp [World.frozen?, hg]
theorem OD.at (h : OD e lo w (.slice (some ⟨b, 0, none⟩) n c) l) (hk : k < l.length) : DeedAt w b (0 + k * 3) l[k] := by
  obtain rfl := h.len
  obtain ⟨h1, h2, h3⟩ := dcs_at l k hk
  rw [Nat.zero_add]
  exact ⟨(h.1.cellAt (k * 3) (by omega)).trans h1, (h.1.cellAt (k * 3 + 1) (by omega)).trans h2, (h.1.cellAt (k * 3 + 2) (by omega)).trans h3, h.2 _ (List.getElem_mem hk)⟩
theorem OD.set0 (h : OD e lo w (.slice (some ⟨b, 0, none⟩) n c) l) (hk : k < l.length) (x : Int) : OD e lo (w.setCell ⟨b, 0 + k * 3, none⟩ (.int .i64 x)) (.slice (some ⟨b, 0, none⟩) n c) (l.set k ⟨x, l[k].text, l[k].node⟩) := by
  obtain rfl := h.len
  have := (h.1.stored (k * 3) (.int .i64 x)).1
  rw [dcs_set0 l k hk] at this
  refine ⟨by rw [List.length_set, Nat.zero_add]; exact this, fun a ha => ?_⟩
  rcases List.mem_or_eq_of_mem_set ha with ha | rfl
  · exact h.2 a ha
  · have := h.2 l[k] (List.getElem_mem hk)
    exact this
theorem OD.set1 (h : OD e lo w (.slice (some ⟨b, 0, none⟩) n c) l) (hk : k < l.length) (x : List UInt8) (hx : x.length ≤ 9223372036854775807) : OD e lo (w.setCell ⟨b, 0 + k * 3 + 1, none⟩ (str x)) (.slice (some ⟨b, 0, none⟩) n c) (l.set k ⟨l[k].kind, x, l[k].node⟩) := by
  obtain rfl := h.len
  have := (h.1.stored (k * 3 + 1) (str x)).1
  rw [dcs_set1 l k hk] at this
  refine ⟨by rw [List.length_set, Nat.zero_add]; exact this, fun a ha => ?_⟩
  rcases List.mem_or_eq_of_mem_set ha with ha | rfl
  · exact h.2 a ha
  · exact hx
theorem OD.set2 (h : OD e lo w (.slice (some ⟨b, 0, none⟩) n c) l) (hk : k < l.length) (x : Int) : OD e lo (w.setCell ⟨b, 0 + k * 3 + 2, none⟩ (.int .i64 x)) (.slice (some ⟨b, 0, none⟩) n c) (l.set k ⟨l[k].kind, l[k].text, x⟩) := by
  obtain rfl := h.len
  have := (h.1.stored (k * 3 + 2) (.int .i64 x)).1
  rw [dcs_set2 l k hk] at this
  refine ⟨by rw [List.length_set, Nat.zero_add]; exact this, fun a ha => ?_⟩
  rcases List.mem_or_eq_of_mem_set ha with ha | rfl
  · exact h.2 a ha
  · have := h.2 l[k] (List.getElem_mem hk)
    exact this
theorem OD.wrote {b' : Nat} (h : OD e lo w v l) (K : ∀ k, k ≠ b' → w'.heap[k]? = w.heap[k]?) (hb : v.ownBlock ≠ some b') : OD e lo w' v l := by
  refine ⟨?_, h.2⟩
  rcases h.1.2 with ⟨rfl, h0⟩ | ⟨g, cap, cur, rfl, hb2, hg, hnc, hcm, hcs, ht⟩
  · exact ⟨h.1.1, .inl ⟨rfl, h0⟩⟩
  · exact ⟨h.1.1, .inr ⟨g, cap, cur, rfl, hb2, (K g (fun e => hb (by rw [← e]; rfl))).trans hg, hnc, hcm, hcs, ht⟩⟩
end
section
variable {P : Program} {N : Env → World → Prop} {ρ : Env} {w w0 : World} {all : Array Oper} {rest : List Oper} {d : Nat} {ty t el e : TypeId} {pos : String} {after : Array Edge} {g : Option (Nat × Bool)} {x y : Operand} {l : List Deed} {lo b n c k : Nat} {nn : Nat}
theorem Wo_stD0 {z : Int} (hw : wantedE all ⟨none, .store t x y, ty, pos, after, g⟩ ρ = true) (ht : ∀ w, (sizeOf t).run P w = .ok 1 w) (hx : evalE ρ x = .pointer (some ⟨b, 0 + k * 3 + 0, none⟩)) (hy : evalE ρ y = .int .i64 z)
    (h : OD e lo w (.slice (some ⟨b, 0, none⟩) n c) l) (hk : k < l.length)
    (hk' : ∀ w1, OD e lo w1 (.slice (some ⟨b, 0, none⟩) n c) (l.set k ⟨z, l[k].text, l[k].node⟩) → Only [b] w w1 → (∀ k, k ≠ b → w1.heap[k]? = w.heap[k]?) → w1.heap.size = w.heap.size → Wops P nn all rest N ρ w1) :
    Wops P nn all (⟨none, .store t x y, ty, pos, after, g⟩ :: rest) N ρ w :=
  Wo_store hw (ops_store ht hx hy rfl (h.at hk).1 (h.free _)) (hk' _ (h.set0 hk z) (Only.setCell (List.mem_singleton.2 rfl)) (fun k h3 => heap_setCell_other _ h3) (size_setCell _ _))
theorem Wo_stD1 {z : List UInt8} (hw : wantedE all ⟨none, .store t x y, ty, pos, after, g⟩ ρ = true) (ht : ∀ w, (sizeOf t).run P w = .ok 1 w) (hx : evalE ρ x = .pointer (some ⟨b, 0 + k * 3 + 1, none⟩)) (hy : evalE ρ y = str z)
    (h : OD e lo w (.slice (some ⟨b, 0, none⟩) n c) l) (hk : k < l.length) (hz : z.length ≤ 9223372036854775807)
    (hk' : ∀ w1, OD e lo w1 (.slice (some ⟨b, 0, none⟩) n c) (l.set k ⟨l[k].kind, z, l[k].node⟩) → Only [b] w w1 → (∀ k, k ≠ b → w1.heap[k]? = w.heap[k]?) → w1.heap.size = w.heap.size → Wops P nn all rest N ρ w1) :
    Wops P nn all (⟨none, .store t x y, ty, pos, after, g⟩ :: rest) N ρ w :=
  Wo_store hw (ops_store ht hx hy rfl (h.at hk).2.1 (h.free _)) (hk' _ (h.set1 hk z hz) (Only.setCell (List.mem_singleton.2 rfl)) (fun k h3 => heap_setCell_other _ h3) (size_setCell _ _))
theorem Wo_stD2 {z : Int} (hw : wantedE all ⟨none, .store t x y, ty, pos, after, g⟩ ρ = true) (ht : ∀ w, (sizeOf t).run P w = .ok 1 w) (hx : evalE ρ x = .pointer (some ⟨b, 0 + k * 3 + 2, none⟩)) (hy : evalE ρ y = .int .i64 z)
    (h : OD e lo w (.slice (some ⟨b, 0, none⟩) n c) l) (hk : k < l.length)
    (hk' : ∀ w1, OD e lo w1 (.slice (some ⟨b, 0, none⟩) n c) (l.set k ⟨l[k].kind, l[k].text, z⟩) → Only [b] w w1 → (∀ k, k ≠ b → w1.heap[k]? = w.heap[k]?) → w1.heap.size = w.heap.size → Wops P nn all rest N ρ w1) :
    Wops P nn all (⟨none, .store t x y, ty, pos, after, g⟩ :: rest) N ρ w :=
  Wo_store hw (ops_store ht hx hy rfl (h.at hk).2.2.1 (h.free _)) (hk' _ (h.set2 hk z) (Only.setCell (List.mem_singleton.2 rfl)) (fun k h3 => heap_setCell_other _ h3) (size_setCell _ _))
/-- xs[k] = a -/
theorem Wo_stDA {a : Deed} (hw : wantedE all ⟨none, .store t x y, ty, pos, after, g⟩ ρ = true) (ht : ∀ w, (sizeOf t).run P w = .ok 3 w) (hx : evalE ρ x = .pointer (some ⟨b, 0 + k * 3, none⟩)) (hy : evalE ρ y = dv a)
    (h : OD e lo w (.slice (some ⟨b, 0, none⟩) n c) l) (hk : k < l.length) (hz : a.text.length ≤ 9223372036854775807)
    (hk' : ∀ w1, OD e lo w1 (.slice (some ⟨b, 0, none⟩) n c) (l.set k a) → Only [b] w w1 → (∀ k, k ≠ b → w1.heap[k]? = w.heap[k]?) → w1.heap.size = w.heap.size → Wops P nn all rest N ρ w1) :
    Wops P nn all (⟨none, .store t x y, ty, pos, after, g⟩ :: rest) N ρ w := by
  have h0 := h.set0 hk a.kind
  have hk0 : k < (l.set k ⟨a.kind, l[k].text, l[k].node⟩).length := by rw [List.length_set]; exact hk
  have h1 := h0.set1 hk0 a.text hz
  rw [List.set_set, List.getElem_set_self] at h1
  have hk1 : k < (l.set k ⟨a.kind, a.text, l[k].node⟩).length := by rw [List.length_set]; exact hk
  have h2 := h1.set2 hk1 a.node
  rw [List.set_set, List.getElem_set_self] at h2
  have k1 := run_store_cell (P := P) (v := .int .i64 a.kind) rfl (h.at hk).1 (h.free _)
  have k2 := run_store_cell (P := P) (v := str a.text) rfl (h0.at hk0).2.1 (h0.free _)
  have k3 := run_store_cell (P := P) (v := .int .i64 a.node) rfl (h1.at hk1).2.2.1 (h1.free _)
  refine Wo_store (w' := ((w.setCell ⟨b, 0 + k * 3, none⟩ (.int .i64 a.kind)).setCell ⟨b, 0 + k * 3 + 1, none⟩ (str a.text)).setCell ⟨b, 0 + k * 3 + 2, none⟩ (.int .i64 a.node)) hw ?_ (hk' _ h2 ?_ (fun k h3 => ?_) ?_)
  · have ea : ∀ i, (⟨b, 0 + k * 3, none⟩ : Addr).add i = ⟨b, 0 + k * 3 + i, none⟩ := fun i => add_mk b _ i
    simp only [Nat.zero_add] at k1 k2 k3 ea
    simp [OpS, execOp, hx, hy, Instr.storeAt, Instr.sureAddr, storeVar, ht, dv, Value.cells, storeCells, ea, k1, k2, k3]
  · exact ((Only.setCell (List.mem_singleton.2 rfl)).trans (Only.setCell (List.mem_singleton.2 rfl))).trans (Only.setCell (List.mem_singleton.2 rfl))
  · rw [heap_setCell_other _ h3, heap_setCell_other _ h3, heap_setCell_other _ h3]
  · rw [size_setCell, size_setCell, size_setCell]
/-- xs[i], a deed, in a region of drawn order -/
theorem Wq_getD {M : Env → Prop} {d2 : Nat} {tl ty2 : TypeId} {pos2 : String} {after2 : Array Edge} {g2 : Option (Nat × Bool)} {v : Value} (ht : P.underlying t = some (.slice el)) (hs : ∀ w, (sizeOf el).run P w = .ok 3 w) (hta : ∀ w, (isAgg tl).run P w = .ok true w) (hts : ∀ w, (sizeOf tl).run P w = .ok 3 w)
    (hw : wantedE all ⟨some d, .indexAddr t x y, ty, pos, after, g⟩ ρ = true) (hw2 : ∀ v, wantedE all ⟨some d2, .load tl (.tmp d), ty2, pos2, after2, g2⟩ (upd ρ d v) = true)
    (hx : evalE ρ x = v) (hR : ESD w0 v l) (hE : Ext w0 w) (hy : evalE ρ y = .int .i64 (k : Int)) (hk : k < l.length)
    (hk' : ∀ ad, Wq P nn all w rest M (upd (upd ρ d (.pointer (some ad))) d2 (dv l[k]))) : Wq P nn all w (⟨some d, .indexAddr t x y, ty, pos, after, g⟩ :: ⟨some d2, .load tl (.tmp d), ty2, pos2, after2, g2⟩ :: rest) M ρ := by
  obtain ⟨a, c, rfl, h1, h2⟩ := hR
  rcases h2 with rfl | ⟨b, o, rfl, h⟩
  · cases hk
  have hD := (h k hk).ext hE
  refine Wq_o hw (fun w' _ => opv_indexAddr3 ht hs hx hy hk) ?_
  refine Wq_o (hw2 _) (fun w' hw' => opv_load3o hta hts (by simp [evalE, upd]) (hD.ext hw').1 (hD.ext hw').2.1 (hD.ext hw').2.2.1) ?_
  exact hk' _
theorem made3 (m : Nat) : madeCells (Value.agg #[.int .i64 0, str [], .int .i64 0]).cells (m * 3) = (dcs (List.replicate m ⟨0, [], 0⟩)).toArray := by
  apply Array.ext'
  unfold madeCells
  simp only [Value.cells, Array.toList_map, Array.toList_range]
  induction m with
  | zero => rfl
  | succ m ih =>
    rw [show (m + 1) * 3 = m * 3 + 1 + 1 + 1 by omega, List.range_succ, List.range_succ, List.range_succ, List.replicate_succ', dcs_app]
    simp only [List.map_append, List.map_cons, List.map_nil, List.append_assoc, List.cons_append, List.nil_append]
    rw [ih]
    have e0 : m * 3 % 3 = 0 := by omega
    have e1 : (m * 3 + 1) % 3 = 1 := by omega
    have e2 : (m * 3 + 1 + 1) % 3 = 2 := by omega
    simp [dcs, e0, e1, e2]
/-- make([]T, n) of deeds -/
theorem Wo_makeD {kk : IntKind} {m : Nat} (hw : wantedE all ⟨some d, .makeSlice t x x, ty, pos, after, g⟩ ρ = true) (hel : ElD P t e) (hx : evalE ρ x = .int kk (m : Int)) (ha : m ≤ 1099511627776)
    (hk : ∀ b w1, w.heap.size ≤ b → b < w1.heap.size → Ext w w1 → OD e w.heap.size w1 (.slice (some ⟨b, 0, none⟩) m m) (List.replicate m ⟨0, [], 0⟩) → Wops P nn all rest N (upd ρ d (.slice (some ⟨b, 0, none⟩) m m)) w1) :
    Wops P nn all (⟨some d, .makeSlice t x x, ty, pos, after, g⟩ :: rest) N ρ w := by
  obtain ⟨i, hi, hz, hs, hby⟩ := hel.info
  have hm : ((i.bytes : Int) * (m : Int)) ≤ 281474976710656 := by
    have : i.bytes * m ≤ 64 * 1099511627776 := Nat.mul_le_mul hby (by omega)
    have h2 : ((i.bytes * m : Nat) : Int) ≤ 70368744177664 := by omega
    have h3 : ((i.bytes * m : Nat) : Int) = (i.bytes : Int) * (m : Int) := Int.natCast_mul _ _
    rw [← h3]; omega
  have hr := run_make (P := P) w t e i _ hel.und hi hz kk kk (m : Int) (m : Int) (by omega) (Int.le_refl _) hm (by omega)
  rw [hs, Int.toNat_natCast, made3] at hr
  refine Wo_run (v := .slice (some ⟨w.heap.size, 0, none⟩) m m) (w' := w.alloc (.cells (dcs (List.replicate m ⟨0, [], 0⟩)).toArray e)) hw ?_ (hk _ _ (Nat.le_refl _) (by simp) ((Ext.refl w).alloc _)
    (OD.blk (heap_alloc_new w _) (Nat.le_refl _) (by simp) (by unfold maxLen; omega) (fun a h => by rw [List.eq_of_mem_replicate h]; simp)))
  simp only [execOp, Sem.run_bind, Sem.run_pure, Result.andThen_ok, hx, hr]
end
theorem OD.span {e : TypeId} {lo lo' hi' : Nat} {w1 w w' : World} {v : Value} {l : List Deed} (h : OD e lo w1 v l) (E : Ext w1 w) (s : Span lo' hi' w w') (hd : w1.heap.size ≤ lo') : OD e lo w' v l := by
  refine ⟨?_, h.2⟩
  rcases h.1.2 with ⟨rfl, h0⟩ | ⟨g, cap, cur, rfl, hb2, hg, hnc, hcm, hcs, ht⟩
  · exact ⟨h.1.1, .inl ⟨rfl, h0⟩⟩
  · have hlt := (h.lt (k := g) rfl).2
    exact ⟨h.1.1, .inr ⟨g, cap, cur, rfl, hb2, ((s.block g (by omega) (Nat.lt_of_lt_of_le hlt E.size)).trans (E.block g hlt)).trans hg, hnc, hcm, hcs, ht⟩⟩
theorem Ext.toSpan {lo hi : Nat} {w w' : World} (h : Ext w w') : Span lo hi w w' := Span.of_only (Ext.only (fp := []) h) (fun k hk => by cases hk)
/-- What a call leaves: own deeds. -/
def RetOD (w : World) (e : TypeId) (l : List Deed) : Value → World → Prop := fun v w' => Ext w w' ∧ OD e w.heap.size w' v l
/-- .. and a number. -/
def RetODZ (w : World) (e : TypeId) (l : List Deed) (z : Int) : Value → World → Prop := fun v w' => ∃ u, v = .tuple #[u, .int .i64 z] ∧ Ext w w' ∧ OD e w.heap.size w' u l
end Go.Hs
