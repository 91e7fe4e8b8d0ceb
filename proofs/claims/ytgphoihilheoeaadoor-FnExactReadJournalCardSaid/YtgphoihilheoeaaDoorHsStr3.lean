/- Structs of three cells, and slices of them that are read. -/
import Derived.Test.YtgphoihilheoeaaDoorHsStr
import Derived.Test.YtgphoihilheoeaaDoorHsDeed
set_option linter.unusedVariables false
set_option linter.unusedSimpArgs false
namespace Go.Hs
section
variable {P : Program} {n : Nat} {N : Env → World → Prop} {ρ : Env} {w w0 : World} {all : Array Oper} {rest : List Oper} {d : Nat} {ty t tl : TypeId} {pos : String} {after : Array Edge} {g : Option (Nat × Bool)} {x y : Operand} {u1 u2 u3 v1 v2 v3 : Value} {b o : Nat} {zs : List Value}
theorem opv_load3o (ht : ∀ w, (isAgg tl).run P w = .ok true w) (hs : ∀ w, (sizeOf tl).run P w = .ok 3 w) (hx : evalE ρ x = .pointer (some ⟨b, o, none⟩)) (h0 : w.cell? ⟨b, o, none⟩ = some u1) (h1 : w.cell? ⟨b, o + 1, none⟩ = some u2) (h2 : w.cell? ⟨b, o + 2, none⟩ = some u3) :
    OpV P (.load tl x) ty ρ w (.agg #[u1, u2, u3]) := by
  have e0 : (⟨b, o, none⟩ : Addr).add 0 = ⟨b, o, none⟩ := add_mk b o 0
  have e1 : (⟨b, o, none⟩ : Addr).add 1 = ⟨b, o + 1, none⟩ := add_mk b o 1
  have e2 : (⟨b, o, none⟩ : Addr).add 2 = ⟨b, o + 2, none⟩ := add_mk b o 2
  simp [OpV, execOp, hx, Instr.loadAt, Instr.sureAddr, loadVar, ht, hs, loadCells, loadCellsFrom, e0, e1, e2, h0, h1, h2]
theorem opv_load3 (ht : ∀ w, (isAgg tl).run P w = .ok true w) (hs : ∀ w, (sizeOf tl).run P w = .ok 3 w) (hx : evalE ρ x = .pointer (some ⟨b, 0, none⟩)) (hB : Blk w b [u1, u2, u3]) : OpV P (.load tl x) ty ρ w (.agg #[u1, u2, u3]) :=
  opv_load3o ht hs hx (hB.cell rfl) (hB.cell rfl) (hB.cell rfl)
theorem Wo_allocN (hw : wantedE all ⟨some d, .alloc t, ty, pos, after, g⟩ ρ = true) (hF : Flat P t zs)
    (hk : ∀ b w1, w.heap.size ≤ b → Ext w w1 → Blk w1 b zs → Wops P n all rest N (upd ρ d (.pointer (some ⟨b, 0, none⟩))) w1) :
    Wops P n all (⟨some d, .alloc t, ty, pos, after, g⟩ :: rest) N ρ w := by
  obtain ⟨fs, hund, hzero, hplaces⟩ := hF
  refine Wo_run (v := .pointer (some ⟨w.heap.size, 0, none⟩)) (w' := w.alloc (.cells zs.toArray t)) hw ?_ (hk _ _ (Nat.le_refl _) ((Ext.refl w).alloc _) (Blk.new w zs t))
  simp [execOp, Instr.alloc, newVar, newRow, hzero, Value.cells]
theorem ops_store3 {c1 c2 c3 : Value} (hs : ∀ w, (sizeOf tl).run P w = .ok 3 w) (hx : evalE ρ x = .pointer (some ⟨b, 0, none⟩)) (hy : evalE ρ y = .agg #[v1, v2, v3]) (h1 : isCell v1 = true) (h2 : isCell v2 = true) (h3 : isCell v3 = true) (hB : Blk w b [c1, c2, c3]) :
    OpS P (.store tl x y) ty ρ w (((w.setCell ⟨b, 0, none⟩ v1).setCell ⟨b, 1, none⟩ v2).setCell ⟨b, 2, none⟩ v3) := by
  have hB' : Blk (w.setCell ⟨b, 0, none⟩ v1) b [v1, c2, c3] := hB.set v1
  have hB'' : Blk ((w.setCell ⟨b, 0, none⟩ v1).setCell ⟨b, 1, none⟩ v2) b [v1, v2, c3] := hB'.set v2
  have k1 := run_store_cell (P := P) (w := w) (ad := ⟨b, 0, none⟩) h1 (hB.cell (i := 0) rfl) hB.frozen
  have k2 := run_store_cell (P := P) (w := w.setCell ⟨b, 0, none⟩ v1) (ad := ⟨b, 1, none⟩) h2 (hB'.cell (i := 1) rfl) hB'.frozen
  have k3 := run_store_cell (P := P) (w := (w.setCell ⟨b, 0, none⟩ v1).setCell ⟨b, 1, none⟩ v2) (ad := ⟨b, 2, none⟩) h3 (hB''.cell (i := 2) rfl) hB''.frozen
  simp [OpS, execOp, hx, hy, Instr.storeAt, Instr.sureAddr, storeVar, hs, Value.cells, storeCells, Addr.add, k1, k2, k3]
theorem Wo_st3 {c1 c2 c3 : Value} (hw : wantedE all ⟨none, .store t x y, ty, pos, after, g⟩ ρ = true) (hs : ∀ w, (sizeOf t).run P w = .ok 3 w) (hx : evalE ρ x = .pointer (some ⟨b, 0, none⟩)) (hy : evalE ρ y = .agg #[v1, v2, v3]) (h1 : isCell v1 = true) (h2 : isCell v2 = true) (h3 : isCell v3 = true)
    (hb : Blk w b [c1, c2, c3]) (h0 : w0.heap.size ≤ b) (hE : Ext w0 w)
    (hk : ∀ w1, Ext w0 w1 → Blk w1 b [v1, v2, v3] → (∀ k, k ≠ b → w1.heap[k]? = w.heap[k]?) → w1.heap.size = w.heap.size → Wops P n all rest N ρ w1) :
    Wops P n all (⟨none, .store t x y, ty, pos, after, g⟩ :: rest) N ρ w := by
  have hb' : Blk (w.setCell ⟨b, 0, none⟩ v1) b [v1, c2, c3] := hb.set v1
  have hb'' : Blk ((w.setCell ⟨b, 0, none⟩ v1).setCell ⟨b, 1, none⟩ v2) b [v1, v2, c3] := hb'.set v2
  refine Wo_store hw (ops_store3 hs hx hy h1 h2 h3 hb) (hk _ (((hE.setCell h0 v1).setCell h0 v2).setCell h0 v3) (hb''.set v3) (fun k h => ?_) ?_)
  · rw [heap_setCell_other _ h, heap_setCell_other _ h, heap_setCell_other _ h]
  · rw [size_setCell, size_setCell, size_setCell]
end
/-- A pointer to a struct of three cells, and what is said of the struct. -/
def CellS3 (w : World) (p : Value) (K : Value → Prop) : Prop := ∃ b u1 u2 u3, p = .pointer (some ⟨b, 0, none⟩) ∧ Blk w b [u1, u2, u3] ∧ K (.agg #[u1, u2, u3])
section
variable {P : Program} {t a a' : Tmp} {ta ta' : TypeId} {w : World} {v : Value}
theorem run_loadVar3 {b : Nat} {u1 u2 u3 : Value} (ht : ∀ w, (isAgg ta).run P w = .ok true w) (hs : ∀ w, (sizeOf ta).run P w = .ok 3 w) (hB : Blk w b [u1, u2, u3]) : (loadVar ta ⟨b, 0, none⟩).run P w = .ok (.agg #[u1, u2, u3]) w := by
  have h0 : w.cell? ⟨b, 0, none⟩ = some u1 := hB.cell rfl
  have h1 : w.cell? ⟨b, 1, none⟩ = some u2 := hB.cell rfl
  have h2 : w.cell? ⟨b, 2, none⟩ = some u3 := hB.cell rfl
  simp [loadVar, ht, hs, loadCells, loadCellsFrom, Addr.add, h0, h1, h2]
theorem results_c3 {fn : Func} {b : Nat} {u1 u2 u3 : Value} (h : fn.results = #[.cell a ta]) (tmps : Array Value) (ht : ∀ w, (isAgg ta).run P w = .ok true w) (hs : ∀ w, (sizeOf ta).run P w = .ok 3 w)
    (hp : tmps.getD a undef = .pointer (some ⟨b, 0, none⟩)) (hB : Blk w b [u1, u2, u3]) : (results fn tmps).run P w = .ok (.agg #[u1, u2, u3]) w := by
  rw [Array.getD_eq_getD_getElem?] at hp
  simp [results, h, hp, asAddr, run_loadVar3 ht hs hB]
theorem results_c3t {fn : Func} {b : Nat} {u1 u2 u3 : Value} (h : fn.results = #[.cell a ta, .tmp t]) (tmps : Array Value) (ht : ∀ w, (isAgg ta).run P w = .ok true w) (hs : ∀ w, (sizeOf ta).run P w = .ok 3 w)
    (hp : tmps.getD a undef = .pointer (some ⟨b, 0, none⟩)) (hB : Blk w b [u1, u2, u3]) : (results fn tmps).run P w = .ok (.tuple #[.agg #[u1, u2, u3], tmps.getD t undef]) w := by
  rw [Array.getD_eq_getD_getElem?] at hp
  simp [results, h, hp, asAddr, run_loadVar3 ht hs hB]
theorem fn_of_Wc3 {f : FuncId} {fn : Func} {c : Code} {args : List Value} {S : Value → World → Prop} (hf : P.funcs[f]? = some fn) (hb : fn.body = some c)
    (hr : fn.results = #[.cell a ta]) {n : Nat} (hn : fn.ntmps = n) (hl : Nat.ble args.length n = true) (ht : ∀ w, (isAgg ta).run P w = .ok true w) (hs : ∀ w, (sizeOf ta).run P w = .ok 3 w)
    (h : W P n c (fun ρ w' => CellS3 w' (ρ a) fun v => S v w') (fun _ _ _ => False) (fun ρ w' => CellS3 w' (ρ a) fun v => S v w') (envOf args) w) : Does P f args w S := by
  subst hn
  unfold W at h
  unfold Does
  refine calls_of_wp hf hb (Go.wp_mono (h _ (Rep.start args _ hl)) fun e a w q => ?_)
  cases e with
  | normal =>
    obtain ⟨ρ, h1, b, u1, u2, u3, h2, h3, h4⟩ := q
    exact ⟨h1.defers, _, results_c3 hr _ ht hs ((h1.get _).trans h2) h3, _, rfl, h4⟩
  | ret =>
    obtain ⟨ρ, h1, b, u1, u2, u3, h2, h3, h4⟩ := q
    exact ⟨h1.defers, _, results_c3 hr _ ht hs ((h1.get _).trans h2) h3, _, rfl, h4⟩
  | exit i => obtain ⟨ρ, h1, h2⟩ := q; exact h2.elim
  | goto l => exact q.elim
  | panic ch => exact q.elim
  | outgrown => exact q.elim
theorem fn_of_Wc3t {f : FuncId} {fn : Func} {c : Code} {args : List Value} {S : Value → World → Prop} (hf : P.funcs[f]? = some fn) (hb : fn.body = some c)
    (hr : fn.results = #[.cell a ta, .tmp t]) {n : Nat} (hn : fn.ntmps = n) (hl : Nat.ble args.length n = true) (ht : ∀ w, (isAgg ta).run P w = .ok true w) (hs : ∀ w, (sizeOf ta).run P w = .ok 3 w)
    (h : W P n c (fun ρ w' => CellS3 w' (ρ a) fun v => S (.tuple #[v, ρ t]) w') (fun _ _ _ => False) (fun ρ w' => CellS3 w' (ρ a) fun v => S (.tuple #[v, ρ t]) w') (envOf args) w) : Does P f args w S := by
  subst hn
  unfold W at h
  unfold Does
  refine calls_of_wp hf hb (Go.wp_mono (h _ (Rep.start args _ hl)) fun e a w q => ?_)
  cases e with
  | normal =>
    obtain ⟨ρ, h1, b, u1, u2, u3, h2, h3, h4⟩ := q
    exact ⟨h1.defers, _, by rw [results_c3t hr _ ht hs ((h1.get _).trans h2) h3, h1.get], _, rfl, h4⟩
  | ret =>
    obtain ⟨ρ, h1, b, u1, u2, u3, h2, h3, h4⟩ := q
    exact ⟨h1.defers, _, by rw [results_c3t hr _ ht hs ((h1.get _).trans h2) h3, h1.get], _, rfl, h4⟩
  | exit i => obtain ⟨ρ, h1, h2⟩ := q; exact h2.elim
  | goto l => exact q.elim
  | panic ch => exact q.elim
  | outgrown => exact q.elim
end

/-! ### deeds -/
/-- a deed as a value -/
def dv (a : Deed) : Value := .agg #[.int .i64 a.kind, str a.text, .int .i64 a.node]
/-- a deed that lies here -/
def DeedAt (w : World) (b o : Nat) (a : Deed) : Prop := w.cell? ⟨b, o, none⟩ = some (.int .i64 a.kind) ∧ w.cell? ⟨b, o + 1, none⟩ = some (str a.text) ∧ w.cell? ⟨b, o + 2, none⟩ = some (.int .i64 a.node) ∧ a.text.length ≤ 9223372036854775807
theorem DeedAt.ext {w w' : World} {b o : Nat} {a : Deed} (h : DeedAt w b o a) (e : Ext w w') : DeedAt w' b o a := ⟨e.cell h.1, e.cell h.2.1, e.cell h.2.2.1, h.2.2.2⟩
/-- a slice of deeds -/
def ESD (w : World) (v : Value) (l : List Deed) : Prop := ∃ a c, v = .slice a l.length c ∧ l.length ≤ 9223372036854775807 ∧ (l = [] ∨ ∃ b o, a = some ⟨b, o, none⟩ ∧ ∀ i (h : i < l.length), DeedAt w b (o + i * 3) l[i])
instance : Mono ESD := ⟨by
  rintro w w' v l e ⟨a, c, rfl, h1, h2⟩
  refine ⟨a, c, rfl, h1, h2.imp id ?_⟩
  rintro ⟨b, o, rfl, h⟩
  exact ⟨b, o, rfl, fun i hi => (h i hi).ext e⟩⟩
theorem ESD.le {w : World} {v : Value} {l : List Deed} (h : ESD w v l) : l.length ≤ 9223372036854775807 := by obtain ⟨a, c, rfl, h1, h2⟩ := h; exact h1
section
variable {P : Program} {n : Nat} {N : Env → World → Prop} {ρ : Env} {w w0 : World} {all : Array Oper} {rest : List Oper} {d d2 : Nat} {ty ty2 t tl ts el : TypeId} {pos pos2 : String} {after after2 : Array Edge} {g g2 : Option (Nat × Bool)} {x y : Operand} {v : Value} {l : List Deed} {k : Nat}
theorem opv_lenD (ht : P.underlying ts = some (.slice el)) (hx : evalE ρ x = v) (h : ESD w0 v l) : OpV P (.call { callee := .builtin .len, args := #[x], argTypes := #[ts] }) ty ρ w (.int .i64 (l.length : Int)) := by
  obtain ⟨a, c, rfl, _⟩ := h
  exact opv_len_slice ht hx
theorem opv_indexAddr3 {b o len cap : Nat} (ht : P.underlying ts = some (.slice el)) (hs : ∀ w, (sizeOf el).run P w = .ok 3 w) (hx : evalE ρ x = .slice (some ⟨b, o, none⟩) len cap) (hy : evalE ρ y = .int .i64 (k : Int)) (hk : k < len) :
    OpV P (.indexAddr ts x y) ty ρ w (.pointer (some ⟨b, o + k * 3, none⟩)) := by
  simp [OpV, execOp, hx, hy, Instr.indexAt, asIntOf, run_und ht, hs, hk]
  unfold Addr.add; split
  · simp_all
  · rfl
/-- xs[i], a deed -/
theorem Wo_getD (ht : P.underlying t = some (.slice el)) (hs : ∀ w, (sizeOf el).run P w = .ok 3 w) (hta : ∀ w, (isAgg tl).run P w = .ok true w) (hts : ∀ w, (sizeOf tl).run P w = .ok 3 w)
    (hw : wantedE all ⟨some d, .indexAddr t x y, ty, pos, after, g⟩ ρ = true) (hw2 : ∀ v, wantedE all ⟨some d2, .load tl (.tmp d), ty2, pos2, after2, g2⟩ (upd ρ d v) = true)
    (hx : evalE ρ x = v) (hR : ESD w0 v l) (hE : Ext w0 w) (hy : evalE ρ y = .int .i64 (k : Int)) (hk : k < l.length)
    (hk' : ∀ ad, Wops P n all rest N (upd (upd ρ d (.pointer (some ad))) d2 (dv l[k])) w) : Wops P n all (⟨some d, .indexAddr t x y, ty, pos, after, g⟩ :: ⟨some d2, .load tl (.tmp d), ty2, pos2, after2, g2⟩ :: rest) N ρ w := by
  obtain ⟨a, c, rfl, h1, h2⟩ := hR
  rcases h2 with rfl | ⟨b, o, rfl, h⟩
  · cases hk
  have hD := (h k hk).ext hE
  refine Wo hw (opv_indexAddr3 ht hs hx hy hk) ?_
  refine Wo (hw2 _) (opv_load3o hta hts (by simp [evalE, upd]) hD.1 hD.2.1 hD.2.2.1) ?_
  exact hk' _
end
end Go.Hs
