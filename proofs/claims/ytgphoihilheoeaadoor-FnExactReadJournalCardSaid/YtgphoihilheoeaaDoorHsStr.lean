/- Structs of two cells, handed by value: loads, stores, variables and results of them. -/
import Derived.Test.YtgphoihilheoeaaDoorHsSet
import Derived.Test.YtgphoihilheoeaaDoorHsHeld
set_option linter.unusedVariables false
set_option linter.unusedSimpArgs false
namespace Go.Hs
section
variable {P : Program} {n : Nat} {N : Env → World → Prop} {ρ : Env} {w w0 : World} {all : Array Oper} {rest : List Oper} {d : Nat} {ty t tl : TypeId} {pos : String} {after : Array Edge} {g : Option (Nat × Bool)} {x y : Operand} {u1 u2 z1 z2 v1 v2 : Value} {b : Nat}
theorem opv_load2 (ht : ∀ w, (isAgg tl).run P w = .ok true w) (hs : ∀ w, (sizeOf tl).run P w = .ok 2 w) (hx : evalE ρ x = .pointer (some ⟨b, 0, none⟩)) (hB : Blk w b [u1, u2]) : OpV P (.load tl x) ty ρ w (.agg #[u1, u2]) := by
  have h0 : w.cell? ⟨b, 0, none⟩ = some u1 := hB.cell rfl
  have h1 : w.cell? ⟨b, 1, none⟩ = some u2 := hB.cell rfl
  simp [OpV, execOp, hx, Instr.loadAt, Instr.sureAddr, loadVar, ht, hs, loadCells, loadCellsFrom, Addr.add, h0, h1]
theorem Wo_alloc2 (hw : wantedE all ⟨some d, .alloc t, ty, pos, after, g⟩ ρ = true) (hF : Flat P t [z1, z2])
    (hk : ∀ b w1, w.heap.size ≤ b → Ext w w1 → Blk w1 b [z1, z2] → Wops P n all rest N (upd ρ d (.pointer (some ⟨b, 0, none⟩))) w1) :
    Wops P n all (⟨some d, .alloc t, ty, pos, after, g⟩ :: rest) N ρ w := by
  obtain ⟨fs, hund, hzero, hplaces⟩ := hF
  refine Wo_run (v := .pointer (some ⟨w.heap.size, 0, none⟩)) (w' := w.alloc (.cells [z1, z2].toArray t)) hw ?_ (hk _ _ (Nat.le_refl _) ((Ext.refl w).alloc _) (Blk.new w [z1, z2] t))
  simp [execOp, Instr.alloc, newVar, newRow, hzero, Value.cells]
theorem ops_store2 {c1 c2 : Value} (hs : ∀ w, (sizeOf tl).run P w = .ok 2 w) (hx : evalE ρ x = .pointer (some ⟨b, 0, none⟩)) (hy : evalE ρ y = .agg #[v1, v2]) (h1 : isCell v1 = true) (h2 : isCell v2 = true) (hB : Blk w b [c1, c2]) :
    OpS P (.store tl x y) ty ρ w ((w.setCell ⟨b, 0, none⟩ v1).setCell ⟨b, 1, none⟩ v2) := by
  have hB' : Blk (w.setCell ⟨b, 0, none⟩ v1) b [v1, c2] := hB.set v1
  have k1 := run_store_cell (P := P) (w := w) (ad := ⟨b, 0, none⟩) h1 (hB.cell (i := 0) rfl) hB.frozen
  have k2 := run_store_cell (P := P) (w := w.setCell ⟨b, 0, none⟩ v1) (ad := ⟨b, 1, none⟩) h2 (hB'.cell (i := 1) rfl) hB'.frozen
  simp [OpS, execOp, hx, hy, Instr.storeAt, Instr.sureAddr, storeVar, hs, Value.cells, storeCells, Addr.add, k1, k2]
theorem Wo_st2 {c1 c2 : Value} (hw : wantedE all ⟨none, .store t x y, ty, pos, after, g⟩ ρ = true) (hs : ∀ w, (sizeOf t).run P w = .ok 2 w) (hx : evalE ρ x = .pointer (some ⟨b, 0, none⟩)) (hy : evalE ρ y = .agg #[v1, v2]) (h1 : isCell v1 = true) (h2 : isCell v2 = true)
    (hb : Blk w b [c1, c2]) (h0 : w0.heap.size ≤ b) (hE : Ext w0 w)
    (hk : ∀ w1, Ext w0 w1 → Blk w1 b [v1, v2] → (∀ k, k ≠ b → w1.heap[k]? = w.heap[k]?) → w1.heap.size = w.heap.size → Wops P n all rest N ρ w1) :
    Wops P n all (⟨none, .store t x y, ty, pos, after, g⟩ :: rest) N ρ w := by
  have hb' : Blk (w.setCell ⟨b, 0, none⟩ v1) b [v1, c2] := hb.set v1
  refine Wo_store hw (ops_store2 hs hx hy h1 h2 hb) (hk _ ((hE.setCell h0 v1).setCell h0 v2) (hb'.set v2) (fun k h => ?_) ?_)
  · rw [heap_setCell_other _ h, heap_setCell_other _ h]
  · rw [size_setCell, size_setCell]
end
/-- A pointer to a struct of two cells, and what is said of the struct. -/
def CellS (w : World) (p : Value) (K : Value → Prop) : Prop := ∃ b u1 u2, p = .pointer (some ⟨b, 0, none⟩) ∧ Blk w b [u1, u2] ∧ K (.agg #[u1, u2])
section
variable {P : Program} {t a a' : Tmp} {ta ta' : TypeId} {w : World} {v : Value}
theorem run_loadVar2 {b : Nat} {u1 u2 : Value} (ht : ∀ w, (isAgg ta).run P w = .ok true w) (hs : ∀ w, (sizeOf ta).run P w = .ok 2 w) (hB : Blk w b [u1, u2]) : (loadVar ta ⟨b, 0, none⟩).run P w = .ok (.agg #[u1, u2]) w := by
  have h0 : w.cell? ⟨b, 0, none⟩ = some u1 := hB.cell rfl
  have h1 : w.cell? ⟨b, 1, none⟩ = some u2 := hB.cell rfl
  simp [loadVar, ht, hs, loadCells, loadCellsFrom, Addr.add, h0, h1]
theorem run_cellVar {b : Nat} {u1 u2 p : Value} (ht : ∀ w, (isAgg ta).run P w = .ok true w) (hs : ∀ w, (sizeOf ta).run P w = .ok 2 w) (hp : p = .pointer (some ⟨b, 0, none⟩)) (hB : Blk w b [u1, u2]) :
    (do loadVar ta (← asAddr p) : Sem Value).run P w = .ok (.agg #[u1, u2]) w := by
  subst hp
  simp [asAddr, run_loadVar2 ht hs hB]
theorem results_c {fn : Func} {b : Nat} {u1 u2 : Value} (h : fn.results = #[.cell a ta]) (tmps : Array Value) (ht : ∀ w, (isAgg ta).run P w = .ok true w) (hs : ∀ w, (sizeOf ta).run P w = .ok 2 w)
    (hp : tmps.getD a undef = .pointer (some ⟨b, 0, none⟩)) (hB : Blk w b [u1, u2]) : (results fn tmps).run P w = .ok (.agg #[u1, u2]) w := by
  rw [Array.getD_eq_getD_getElem?] at hp
  simp [results, h, hp, asAddr, run_loadVar2 ht hs hB]
theorem results_ct {fn : Func} {b : Nat} {u1 u2 : Value} (h : fn.results = #[.cell a ta, .tmp t]) (tmps : Array Value) (ht : ∀ w, (isAgg ta).run P w = .ok true w) (hs : ∀ w, (sizeOf ta).run P w = .ok 2 w)
    (hp : tmps.getD a undef = .pointer (some ⟨b, 0, none⟩)) (hB : Blk w b [u1, u2]) : (results fn tmps).run P w = .ok (.tuple #[.agg #[u1, u2], tmps.getD t undef]) w := by
  rw [Array.getD_eq_getD_getElem?] at hp
  simp [results, h, hp, asAddr, run_loadVar2 ht hs hB]
theorem results_tc {fn : Func} {b : Nat} {u1 u2 : Value} (h : fn.results = #[.tmp t, .cell a ta]) (tmps : Array Value) (ht : ∀ w, (isAgg ta).run P w = .ok true w) (hs : ∀ w, (sizeOf ta).run P w = .ok 2 w)
    (hp : tmps.getD a undef = .pointer (some ⟨b, 0, none⟩)) (hB : Blk w b [u1, u2]) : (results fn tmps).run P w = .ok (.tuple #[tmps.getD t undef, .agg #[u1, u2]]) w := by
  rw [Array.getD_eq_getD_getElem?] at hp
  simp [results, h, hp, asAddr, run_loadVar2 ht hs hB]
theorem results_cc {fn : Func} {b b' : Nat} {u1 u2 v1 v2 : Value} (h : fn.results = #[.cell a ta, .cell a' ta]) (tmps : Array Value) (ht : ∀ w, (isAgg ta).run P w = .ok true w) (hs : ∀ w, (sizeOf ta).run P w = .ok 2 w)
    (hp : tmps.getD a undef = .pointer (some ⟨b, 0, none⟩)) (hB : Blk w b [u1, u2]) (hp' : tmps.getD a' undef = .pointer (some ⟨b', 0, none⟩)) (hB' : Blk w b' [v1, v2]) : (results fn tmps).run P w = .ok (.tuple #[.agg #[u1, u2], .agg #[v1, v2]]) w := by
  rw [Array.getD_eq_getD_getElem?] at hp hp'
  simp [results, h, hp, hp', asAddr, run_loadVar2 ht hs hB, run_loadVar2 ht hs hB']
/-- A function whose result lies in a variable. -/
theorem fn_of_Wc {f : FuncId} {fn : Func} {c : Code} {args : List Value} {S : Value → World → Prop} (hf : P.funcs[f]? = some fn) (hb : fn.body = some c)
    (hr : fn.results = #[.cell a ta]) {n : Nat} (hn : fn.ntmps = n) (hl : Nat.ble args.length n = true) (ht : ∀ w, (isAgg ta).run P w = .ok true w) (hs : ∀ w, (sizeOf ta).run P w = .ok 2 w)
    (h : W P n c (fun ρ w' => CellS w' (ρ a) fun v => S v w') (fun _ _ _ => False) (fun ρ w' => CellS w' (ρ a) fun v => S v w') (envOf args) w) : Does P f args w S := by
  subst hn
  unfold W at h
  unfold Does
  refine calls_of_wp hf hb (Go.wp_mono (h _ (Rep.start args _ hl)) fun e a w q => ?_)
  cases e with
  | normal =>
    obtain ⟨ρ, h1, b, u1, u2, h2, h3, h4⟩ := q
    exact ⟨h1.defers, _, results_c hr _ ht hs ((h1.get _).trans h2) h3, _, rfl, h4⟩
  | ret =>
    obtain ⟨ρ, h1, b, u1, u2, h2, h3, h4⟩ := q
    exact ⟨h1.defers, _, results_c hr _ ht hs ((h1.get _).trans h2) h3, _, rfl, h4⟩
  | exit i => obtain ⟨ρ, h1, h2⟩ := q; exact h2.elim
  | goto l => exact q.elim
  | panic ch => exact q.elim
  | outgrown => exact q.elim
theorem fn_of_Wct {f : FuncId} {fn : Func} {c : Code} {args : List Value} {S : Value → World → Prop} (hf : P.funcs[f]? = some fn) (hb : fn.body = some c)
    (hr : fn.results = #[.cell a ta, .tmp t]) {n : Nat} (hn : fn.ntmps = n) (hl : Nat.ble args.length n = true) (ht : ∀ w, (isAgg ta).run P w = .ok true w) (hs : ∀ w, (sizeOf ta).run P w = .ok 2 w)
    (h : W P n c (fun ρ w' => CellS w' (ρ a) fun v => S (.tuple #[v, ρ t]) w') (fun _ _ _ => False) (fun ρ w' => CellS w' (ρ a) fun v => S (.tuple #[v, ρ t]) w') (envOf args) w) : Does P f args w S := by
  subst hn
  unfold W at h
  unfold Does
  refine calls_of_wp hf hb (Go.wp_mono (h _ (Rep.start args _ hl)) fun e a w q => ?_)
  cases e with
  | normal =>
    obtain ⟨ρ, h1, b, u1, u2, h2, h3, h4⟩ := q
    exact ⟨h1.defers, _, by rw [results_ct hr _ ht hs ((h1.get _).trans h2) h3, h1.get], _, rfl, h4⟩
  | ret =>
    obtain ⟨ρ, h1, b, u1, u2, h2, h3, h4⟩ := q
    exact ⟨h1.defers, _, by rw [results_ct hr _ ht hs ((h1.get _).trans h2) h3, h1.get], _, rfl, h4⟩
  | exit i => obtain ⟨ρ, h1, h2⟩ := q; exact h2.elim
  | goto l => exact q.elim
  | panic ch => exact q.elim
  | outgrown => exact q.elim
theorem fn_of_Wtc {f : FuncId} {fn : Func} {c : Code} {args : List Value} {S : Value → World → Prop} (hf : P.funcs[f]? = some fn) (hb : fn.body = some c)
    (hr : fn.results = #[.tmp t, .cell a ta]) {n : Nat} (hn : fn.ntmps = n) (hl : Nat.ble args.length n = true) (ht : ∀ w, (isAgg ta).run P w = .ok true w) (hs : ∀ w, (sizeOf ta).run P w = .ok 2 w)
    (h : W P n c (fun ρ w' => CellS w' (ρ a) fun v => S (.tuple #[ρ t, v]) w') (fun _ _ _ => False) (fun ρ w' => CellS w' (ρ a) fun v => S (.tuple #[ρ t, v]) w') (envOf args) w) : Does P f args w S := by
  subst hn
  unfold W at h
  unfold Does
  refine calls_of_wp hf hb (Go.wp_mono (h _ (Rep.start args _ hl)) fun e a w q => ?_)
  cases e with
  | normal =>
    obtain ⟨ρ, h1, b, u1, u2, h2, h3, h4⟩ := q
    exact ⟨h1.defers, _, by rw [results_tc hr _ ht hs ((h1.get _).trans h2) h3, h1.get], _, rfl, h4⟩
  | ret =>
    obtain ⟨ρ, h1, b, u1, u2, h2, h3, h4⟩ := q
    exact ⟨h1.defers, _, by rw [results_tc hr _ ht hs ((h1.get _).trans h2) h3, h1.get], _, rfl, h4⟩
  | exit i => obtain ⟨ρ, h1, h2⟩ := q; exact h2.elim
  | goto l => exact q.elim
  | panic ch => exact q.elim
  | outgrown => exact q.elim
theorem fn_of_Wcc {f : FuncId} {fn : Func} {c : Code} {args : List Value} {S : Value → World → Prop} (hf : P.funcs[f]? = some fn) (hb : fn.body = some c)
    (hr : fn.results = #[.cell a ta, .cell a' ta]) {n : Nat} (hn : fn.ntmps = n) (hl : Nat.ble args.length n = true) (ht : ∀ w, (isAgg ta).run P w = .ok true w) (hs : ∀ w, (sizeOf ta).run P w = .ok 2 w)
    (h : W P n c (fun ρ w' => CellS w' (ρ a) fun v => CellS w' (ρ a') fun v' => S (.tuple #[v, v']) w') (fun _ _ _ => False) (fun ρ w' => CellS w' (ρ a) fun v => CellS w' (ρ a') fun v' => S (.tuple #[v, v']) w') (envOf args) w) : Does P f args w S := by
  subst hn
  unfold W at h
  unfold Does
  refine calls_of_wp hf hb (Go.wp_mono (h _ (Rep.start args _ hl)) fun e a w q => ?_)
  cases e with
  | normal =>
    obtain ⟨ρ, h1, b, u1, u2, h2, h3, b', v1, v2, h5, h6, h4⟩ := q
    exact ⟨h1.defers, _, results_cc hr _ ht hs ((h1.get _).trans h2) h3 ((h1.get _).trans h5) h6, _, rfl, h4⟩
  | ret =>
    obtain ⟨ρ, h1, b, u1, u2, h2, h3, b', v1, v2, h5, h6, h4⟩ := q
    exact ⟨h1.defers, _, results_cc hr _ ht hs ((h1.get _).trans h2) h3 ((h1.get _).trans h5) h6, _, rfl, h4⟩
  | exit i => obtain ⟨ρ, h1, h2⟩ := q; exact h2.elim
  | goto l => exact q.elim
  | panic ch => exact q.elim
  | outgrown => exact q.elim
end
theorem OwnedB.isC {α : Type} {X : World → List Nat → Value → α → Prop} {w : World} {v : Value} {e : TypeId} {xs : List α} {lo hi : Nat} (h : OwnedB lo hi (XSl e X) w v xs) : isCell v = true := by
  obtain ⟨fp, h1, h2, cs, fps, h3, rfl, h5⟩ := h
  rcases h3.2 with ⟨rfl, _⟩ | ⟨g, cap, cur, rfl, _⟩ <;> rfl
theorem own_disj {α β : Type} {X : World → List Nat → Value → α → Prop} {Y : World → List Nat → Value → β → Prop} {w : World} {v u : Value} {e e' : TypeId} {xs : List α} {ys : List β} {lo hi lo' hi' : Nat} (h : OwnedB lo hi (XSl e X) w v xs) (h' : OwnedB lo' hi' (XSl e' Y) w u ys) (hd : hi ≤ lo' ∨ hi' ≤ lo) : v.ownBlock ≠ u.ownBlock ∨ v.ownBlock = none := by
  cases hv : v.ownBlock with
  | none => exact .inr rfl
  | some k =>
    left
    intro e
    obtain ⟨fp, h1, h2, cs, fps, h3, rfl, h5⟩ := h
    obtain ⟨fp', k1, k2, cs', fps', k3, rfl, k5⟩ := h'
    have h6 := h2 k (by simp [hv])
    have h7 := k2 k (by simp [← e])
    omega
/-- What a call leaves that hands back a struct of two lists of its own. -/
def RetS2 (w : World) (e : TypeId) (xs ys : List Int) : Value → World → Prop := fun v w' => ∃ u1 u2, v = .agg #[u1, u2] ∧ Ext w w' ∧ Owned w.heap.size (XSl e XInt) w' u1 xs ∧ Owned w.heap.size (XSl e XInt) w' u2 ys ∧ (u1.ownBlock ≠ u2.ownBlock ∨ u1.ownBlock = none)
/-- .. and a truth beside it. -/
def RetS2b (w : World) (e : TypeId) (xs ys : List Int) (b : Bool) : Value → World → Prop := fun v w' => ∃ u1 u2, v = .tuple #[.agg #[u1, u2], .bool b] ∧ Ext w w' ∧ Owned w.heap.size (XSl e XInt) w' u1 xs ∧ Owned w.heap.size (XSl e XInt) w' u2 ys ∧ (u1.ownBlock ≠ u2.ownBlock ∨ u1.ownBlock = none)
/-- What a call leaves that turns two lists of the caller's own. -/
def RetSS (lo hi : Nat) (w : World) (r : Value) (e : TypeId) (u1 : Value) (xs : List Int) (u2 : Value) (ys : List Int) : Value → World → Prop := fun v w' => v = r ∧ Span lo hi w w' ∧ OwnedB lo hi (XSl e XInt) w' u1 xs ∧ OwnedB lo hi (XSl e XInt) w' u2 ys
theorem OwnedB.capOk {α : Type} {X : World → List Nat → Value → α → Prop} {w : World} {v : Value} {e : TypeId} {xs : List α} {lo hi : Nat} (h : OwnedB lo hi (XSl e X) w v xs) : CapOk v := by
  obtain ⟨fp, h1, h2, cs, fps, h3, rfl, h5⟩ := h
  rcases h3.2 with ⟨rfl, h0⟩ | ⟨g, cap, cur, rfl, _, _, hc, _⟩
  · exact ⟨none, 0, 0, rfl, Nat.le_refl _⟩
  · exact ⟨_, _, _, rfl, hc⟩
theorem XInt_flat2 {w : World} : ∀ {fs : List (List Nat)} {cs : List Value} {xs : List Int}, XAll XInt w fs cs xs → fs.flatten = []
  | [], _, _, _ => rfl
  | f :: fs, c :: cs, x :: xs, h => by rw [List.flatten_cons, h.1.1, XInt_flat2 h.2]; rfl
  | _ :: _, [], _, h => h.elim
  | _ :: _, _ :: _, [], h => h.elim
/-- as tight as may be -/
theorem own_tight {w : World} {v : Value} {e : TypeId} {xs : List Int} {lo hi : Nat} (h : OwnedB lo hi (XSl e XInt) w v xs) : OwnedB (v.ownBlock.getD lo) (match v.ownBlock with | some b => b + 1 | none => lo) (XSl e XInt) w v xs := by
  obtain ⟨fp, h1, h2, cs, fps, h3, rfl, h5⟩ := h
  have hf := XInt_flat2 h5
  refine ⟨_, h1, fun k hk => ?_, cs, fps, h3, rfl, h5⟩
  rw [hf, List.append_nil] at hk
  cases hv : v.ownBlock with
  | none => rw [hv] at hk; simp at hk
  | some b => rw [hv] at hk; simp at hk; subst hk; simp
/-- two lists with their own blocks: each in a span of its own -/
theorem own_apart {w : World} {u v : Value} {e : TypeId} {xs ys : List Int} {lo hi : Nat} (h : OwnedB lo hi (XSl e XInt) w u xs) (h' : OwnedB lo hi (XSl e XInt) w v ys) (hd : u.ownBlock ≠ v.ownBlock ∨ u.ownBlock = none) (hlh : lo ≤ hi) :
    ∃ l1 h1 l2 h2, OwnedB l1 h1 (XSl e XInt) w u xs ∧ OwnedB l2 h2 (XSl e XInt) w v ys ∧ (h1 ≤ l2 ∨ h2 ≤ l1) ∧ lo ≤ l1 ∧ h1 ≤ hi ∧ lo ≤ l2 ∧ h2 ≤ hi := by
  have k1 := own_tight h
  have k2 := own_tight h'
  have r1 : ∀ b, u.ownBlock = some b → lo ≤ b ∧ b < hi := fun b hb => by
    obtain ⟨fp, h1, h2, cs, fps, h3, rfl, h5⟩ := h
    exact h2 b (by simp [hb])
  have r2 : ∀ b, v.ownBlock = some b → lo ≤ b ∧ b < hi := fun b hb => by
    obtain ⟨fp, h1, h2, cs, fps, h3, rfl, h5⟩ := h'
    exact h2 b (by simp [hb])
  refine ⟨_, _, _, _, k1, k2, ?_⟩
  cases hu : u.ownBlock with
  | none =>
    cases hv : v.ownBlock with
    | none => simp; omega
    | some b => have := r2 b hv; simp; omega
  | some a =>
    have := r1 a hu
    cases hv : v.ownBlock with
    | none => simp; omega
    | some b =>
      have := r2 b hv
      have hab : a ≠ b := fun e => by subst e; rw [hu, hv] at hd; simp at hd
      simp; omega
end Go.Hs
