/- make; stores into slices of the call's own; own rows of rows; function values. -/
import Derived.Test.YtgphoihilheoeaaDoorHsOwn
import Derived.Laws.MakeOwn
set_option linter.unusedVariables false
namespace Go.Hs

section
variable {P : Program} {n : Nat} {N : Env → World → Prop} {ρ : Env} {w w0 wb : World} {all : Array Oper} {rest : List Oper}
  {d d2 : Nat} {ty ty2 t e e2 tl el' : TypeId} {pos pos2 : String} {after after2 : Array Edge} {g g2 : Option (Nat × Bool)} {s x y : Operand} {v u xv : Value} {b c lo i j br cr : Nat} {z : Value} {k : IntKind} {a : Int}
  {α : Type} {X : World → List Nat → Value → α → Prop} {E : World → Value → α → Prop} {xs ys : List α} {q : α}

/-! ### make -/
theorem Wo_make0 (hw : wantedE all ⟨some d, .makeSlice t x x, ty, pos, after, g⟩ ρ = true) (hel : El P t e z) (hx : evalE ρ x = .int k a) (ha : 0 ≤ a ∧ a ≤ 1099511627776)
    (hk : ∀ b w1, w.heap.size ≤ b → b < w1.heap.size → Ext w w1 → w1.heap[b]? = some (.cells (List.replicate a.toNat z).toArray e (0, 0)) → Wops P n all rest N (upd ρ d (.slice (some ⟨b, 0, none⟩) a.toNat a.toNat)) w1) :
    Wops P n all (⟨some d, .makeSlice t x x, ty, pos, after, g⟩ :: rest) N ρ w := by
  obtain ⟨i, hi, hz, hs, hby⟩ := hel.info
  have hm : ((i.bytes : Int) * a) ≤ 281474976710656 := by
    obtain ⟨A, rfl⟩ := Int.eq_ofNat_of_zero_le ha.1
    have : i.bytes * A ≤ 64 * 1099511627776 := Nat.mul_le_mul hby (by omega)
    have h2 : ((i.bytes * A : Nat) : Int) ≤ 70368744177664 := by omega
    have h3 : ((i.bytes * A : Nat) : Int) = (i.bytes : Int) * (A : Int) := Int.natCast_mul _ _
    rw [← h3]; omega
  have hr := run_make (P := P) w t e i z hel.und hi hz k k a a ha.1 (Int.le_refl _) hm (by omega)
  have hc : madeCells z.cells (a.toNat * i.size) = (List.replicate a.toNat z).toArray := by
    rw [hs, Nat.mul_one, isCell_cells hel.zero]
    apply Array.ext'
    rw [toList_madeCells_one]
  rw [hc] at hr
  refine Wo_run (v := .slice (some ⟨w.heap.size, 0, none⟩) a.toNat a.toNat) (w' := w.alloc (.cells (List.replicate a.toNat z).toArray e)) hw ?_ (hk _ _ (Nat.le_refl _) (by simp) ((Ext.refl w).alloc _) (heap_alloc_new w _))
  simp only [execOp, Sem.run_bind, Sem.run_pure, Result.andThen_ok, hx, hr]
theorem Wo_make {x0 : α} (hw : wantedE all ⟨some d, .makeSlice t x x, ty, pos, after, g⟩ ρ = true) (hel : El P t e z) {m : Nat} (hx : evalE ρ x = .int k (m : Int)) (ha : m ≤ 1099511627776) (hz : ∀ w, X w [] z x0)
    (hk : ∀ b w1, w.heap.size ≤ b → b < w1.heap.size → Ext w w1 → Owned w.heap.size (XSl e X) w1 (.slice (some ⟨b, 0, none⟩) m m) (List.replicate m x0) → Wops P n all rest N (upd ρ d (.slice (some ⟨b, 0, none⟩) m m)) w1) :
    Wops P n all (⟨some d, .makeSlice t x x, ty, pos, after, g⟩ :: rest) N ρ w :=
  Wo_make0 hw hel hx (by omega) fun b w1 h1 h2 h3 h4 => hk b w1 h1 h2 h3 (Owned.made h4 h1 (by unfold maxLen; omega) (hz w1))
theorem Wo_makeI (hw : wantedE all ⟨some d, .makeSlice t x x, ty, pos, after, g⟩ ρ = true) (hel : El P t e (.int .i64 0)) {m : Nat} (hx : evalE ρ x = .int k (m : Int)) (ha : m ≤ 1099511627776)
    (hk : ∀ b w1, w.heap.size ≤ b → b < w1.heap.size → Ext w w1 → Owned w.heap.size (XSl e XInt) w1 (.slice (some ⟨b, 0, none⟩) m m) (List.replicate m 0) → Wops P n all rest N (upd ρ d (.slice (some ⟨b, 0, none⟩) m m)) w1) :
    Wops P n all (⟨some d, .makeSlice t x x, ty, pos, after, g⟩ :: rest) N ρ w := Wo_make hw hel hx ha (fun _ => ⟨rfl, rfl⟩) hk
theorem Wo_makeB (hw : wantedE all ⟨some d, .makeSlice t x x, ty, pos, after, g⟩ ρ = true) (hel : El P t e (.bool false)) {m : Nat} (hx : evalE ρ x = .int k (m : Int)) (ha : m ≤ 1099511627776)
    (hk : ∀ b w1, w.heap.size ≤ b → b < w1.heap.size → Ext w w1 → Owned w.heap.size (XSl e XBool) w1 (.slice (some ⟨b, 0, none⟩) m m) (List.replicate m false) → Wops P n all rest N (upd ρ d (.slice (some ⟨b, 0, none⟩) m m)) w1) :
    Wops P n all (⟨some d, .makeSlice t x x, ty, pos, after, g⟩ :: rest) N ρ w := Wo_make hw hel hx ha (fun _ => ⟨rfl, rfl⟩) hk
theorem XSl.nil (w : World) : XSl e X w [] (.slice none 0 0) [] := ⟨[], [], World.ownsRow_nil w 0 e 1, rfl, trivial⟩
theorem Wo_makeR (e2 : TypeId) (hw : wantedE all ⟨some d, .makeSlice t x x, ty, pos, after, g⟩ ρ = true) (hel : El P t e (.slice none 0 0)) {m : Nat} (hx : evalE ρ x = .int k (m : Int)) (ha : m ≤ 1099511627776)
    (hk : ∀ b w1, w.heap.size ≤ b → b < w1.heap.size → Ext w w1 → Owned w.heap.size (XSl e (XSl e2 XInt)) w1 (.slice (some ⟨b, 0, none⟩) m m) (List.replicate m []) → Wops P n all rest N (upd ρ d (.slice (some ⟨b, 0, none⟩) m m)) w1) :
    Wops P n all (⟨some d, .makeSlice t x x, ty, pos, after, g⟩ :: rest) N ρ w := Wo_make hw hel hx ha (fun w => XSl.nil w) hk
theorem int_z {a : Int} (h : 0 ≤ a) (hx : evalE ρ x = .int k a) : evalE ρ x = .int k (a.toNat : Nat) := by rw [hx, toNat_cast h]

/-! ### a composite literal -/
/-- []T{} -/
theorem Wo_lit0 (X : World → List Nat → Value → α → Prop) (hw : wantedE all ⟨some d, .buildSlice t 0 #[], ty, pos, after, g⟩ ρ = true) (hel : El P t e z) (hs : ∀ w, (sizeOf e).run P w = .ok 1 w)
    (hk : ∀ b w1, w.heap.size ≤ b → b < w1.heap.size → Ext w w1 → Owned w.heap.size (XSl e X) w1 (.slice (some ⟨b, 0, none⟩) 0 0) [] → Wops P n all rest N (upd ρ d (.slice (some ⟨b, 0, none⟩) 0 0)) w1) :
    Wops P n all (⟨some d, .buildSlice t 0 #[], ty, pos, after, g⟩ :: rest) N ρ w := by
  refine Wo_run (v := .slice (some ⟨w.heap.size, 0, none⟩) 0 0) (w' := w.alloc (.cells [].toArray e)) hw ?_ (hk _ _ (Nat.le_refl _) (by simp) ((Ext.refl w).alloc _)
    (Owned.block (cs := []) (xs := []) (heap_alloc_new w _) (Nat.le_refl _) rfl (by unfold maxLen; omega) trivial))
  simp [execOp, Instr.buildSlice, run_und hel.und, hs, newRow, show Array.range 0 = #[] from rfl, Instr.fill]

/-! ### stores -/
theorem flatten_set_nodup {fs : List (List Nat)} {f fi : List Nat} : ∀ {i : Nat}, fs.flatten.Nodup → f.Nodup → (∀ k ∈ f, k ∉ fs.flatten) → (fs.set i f).flatten.Nodup ∧ ∀ k ∈ (fs.set i f).flatten, k ∈ f ∨ k ∈ fs.flatten := by
  induction fs with
  | nil => intro i h1 h2 h3; simp
  | cons g fs ih =>
    intro i h1 h2 h3
    rw [List.flatten_cons, List.nodup_append] at h1
    have hf : ∀ k ∈ f, k ∉ fs.flatten := fun k hk hm => h3 k hk (by rw [List.flatten_cons]; exact List.mem_append_right _ hm)
    cases i with
    | zero =>
      simp only [List.set_cons_zero, List.flatten_cons]
      refine ⟨List.nodup_append.2 ⟨h2, h1.2.1, fun a ha b hb hab => hf a ha (by rw [hab]; exact hb)⟩, fun k hk => ?_⟩
      rcases List.mem_append.1 hk with hk | hk
      · exact .inl hk
      · exact .inr (List.mem_append_right _ hk)
    | succ i =>
      obtain ⟨h4, h5⟩ := ih (i := i) h1.2.1 h2 hf
      simp only [List.set_cons_succ, List.flatten_cons]
      refine ⟨List.nodup_append.2 ⟨h1.1, h4, fun a ha b hb hab => ?_⟩, fun k hk => ?_⟩
      · subst hab
        rcases h5 a hb with h6 | h6
        · exact h3 a h6 (by rw [List.flatten_cons]; exact List.mem_append_left _ ha)
        · exact h1.2.2 a ha a h6 rfl
      · rcases List.mem_append.1 hk with hk | hk
        · exact .inr (List.mem_append_left _ hk)
        · rcases h5 k hk with h6 | h6
          · exact .inl h6
          · exact .inr (List.mem_append_right _ h6)

theorem flatten_apart {fs : List (List Nat)} : ∀ {i j k : Nat} {f g : List Nat}, fs.flatten.Nodup → fs[i]? = some f → fs[j]? = some g → i ≠ j → k ∈ f → k ∈ g → False := by
  induction fs with
  | nil => intro i j k f g _ h; simp at h
  | cons a fs ih =>
    intro i j k f g hn h1 h2 hne hf hg
    rw [List.flatten_cons, List.nodup_append] at hn
    cases i with
    | zero =>
      cases j with
      | zero => exact hne rfl
      | succ j =>
        simp at h1; subst h1
        exact hn.2.2 k hf k (List.mem_flatten.2 ⟨g, List.mem_of_getElem? (by simpa using h2), hg⟩) rfl
    | succ i =>
      cases j with
      | zero =>
        simp at h2; subst h2
        exact hn.2.2 k hg k (List.mem_flatten.2 ⟨f, List.mem_of_getElem? (by simpa using h1), hf⟩) rfl
      | succ j => exact ih hn.2.1 (by simpa using h1) (by simpa using h2) (by omega) hf hg
theorem Owned.cellAt [Loc X] (h : Owned lo (XSl e X) w (.slice (some ⟨b, 0, none⟩) i c) xs) {j : Nat} (hj : j < xs.length) : ∃ u, w.cell? ⟨b, j, none⟩ = some u ∧ w.frozen? ⟨b, j, none⟩ = false := by
  obtain ⟨fp, h1, h2, cs, fps, h3, rfl, h5⟩ := h
  have hl := h5.len
  have hn : i = xs.length := by
    rcases h3.2 with ⟨h6, _⟩ | ⟨g, cap, cur, h6, _⟩
    · cases h6
    · cases h6; rfl
  subst hn
  refine ⟨cs[j]'(by omega), ?_, h3.frozenAt j⟩
  rw [h3.cellAt j (by omega)]
  simp

theorem XInt_flat {w : World} : ∀ {fps : List (List Nat)} {cs : List Value} {xs : List Int}, XAll XInt w fps cs xs → fps.flatten = []
  | [], _, _, _ => rfl
  | f :: fs, c :: cs, x :: xs, h => by rw [List.flatten_cons, h.1.1, XInt_flat h.2]; rfl
  | _ :: _, [], _, h => h.elim
  | _ :: _, _ :: _, [], h => h.elim
/-- Its blocks are that one alone. -/
theorem XI_fp {w : World} {e : TypeId} {fp : List Nat} {v : Value} {xs : List Int} (h : XSl e XInt w fp v xs) : fp = v.ownBlock.toList := by
  obtain ⟨cs, fps, h3, rfl, h5⟩ := h
  rw [XInt_flat h5]; simp
/-- An element replaced. -/
theorem OwnedB.set [Loc X] {hi lu : Nat} (h : OwnedB lo hi (XSl e X) w (.slice (some ⟨b, 0, none⟩) i c) xs) {j : Nat} (hj : j < xs.length) (hu : Owned lu X w u q) (hlu : hi ≤ lu) (hlo : lo ≤ hi) :
    Owned lo (XSl e X) (w.setCell ⟨b, j, none⟩ u) (.slice (some ⟨b, 0, none⟩) i c) (xs.set j q) := by
  obtain ⟨fp, h1, hB, hX⟩ := h
  have h2 : ∀ k ∈ fp, lo ≤ k := fun k hk => (hB k hk).1
  have hltb : ∀ k ∈ fp, k < hi := fun k hk => (hB k hk).2
  obtain ⟨fu, n1, n2', hXu⟩ := hu
  have n2 : ∀ k ∈ fu, hi ≤ k := fun k hk => Nat.le_trans hlu (n2' k hk)
  obtain ⟨cs, fps, h3, rfl, h5⟩ := hX
  have hl := h5.len
  have hn : i = xs.length := by
    rcases h3.2 with ⟨h6, _⟩ | ⟨g, cap, cur, h6, _⟩
    · cases h6
    · cases h6; rfl
  subst hn
  have hst := h3.stored j u
  have h1' : (b :: fps.flatten).Nodup := h1
  rw [List.nodup_cons] at h1'
  have hdis : ∀ k ∈ fu, k ∉ fps.flatten := fun k hk hm => by
    have := n2 k hk; have := hltb k (List.mem_append_right _ hm); omega
  have hbu : b ∉ fu := fun hm => by
    have := n2 b hm; have := hltb b (by simp [Value.ownBlock]); omega
  obtain ⟨h6, h7⟩ := flatten_set_nodup (i := j) (fi := []) h1'.2 n1 hdis
  refine ⟨b :: (fps.set j fu).flatten, List.nodup_cons.2 ⟨fun hm => ?_, h6⟩, fun k hk => ?_, cs.set j u, fps.set j fu, by simpa using hst.1, rfl, ?_⟩
  · rcases h7 b hm with h8 | h8
    · exact hbu h8
    · exact h1'.1 h8
  · rcases List.mem_cons.1 hk with rfl | hk
    · exact h2 k (by simp [Value.ownBlock])
    · rcases h7 k hk with h8 | h8
      · have := n2 k h8; omega
      · exact h2 k (List.mem_append_right _ h8)
  · refine h5.turned hj (Loc.loc (fun k hk => heap_setCell_other u (fun e => hbu (by simp only at e; rw [← e]; exact hk))) hXu) (fun m g' hm hg k hk => heap_setCell_other u (fun e => h1'.1 ?_))
    simp only at e
    rw [← e]
    exact List.mem_flatten.2 ⟨g', List.mem_of_getElem? hg, hk⟩

theorem Wo_set [Loc X] (hw : wantedE all ⟨none, .store t x y, ty, pos, after, g⟩ ρ = true) (ht : ∀ w, (sizeOf t).run P w = .ok 1 w) (hx : evalE ρ x = .pointer (some ⟨b, 0 + j, none⟩)) (hy : evalE ρ y = u)
    {hi lu : Nat} (h : OwnedB lo hi (XSl e X) w (.slice (some ⟨b, 0, none⟩) i c) xs) (hj : j < xs.length) (hu : Owned lu X w u q) (hlu : hi ≤ lu) (hlo : lo ≤ hi)
    (hk : ∀ w1, Owned lo (XSl e X) w1 (.slice (some ⟨b, 0, none⟩) i c) (xs.set j q) → Only [b] w w1 → (∀ k, k ≠ b → w1.heap[k]? = w.heap[k]?) → w1.heap.size = w.heap.size → Wops P n all rest N ρ w1) :
    Wops P n all (⟨none, .store t x y, ty, pos, after, g⟩ :: rest) N ρ w := by
  rw [Nat.zero_add] at hx
  obtain ⟨u0, h1, h2⟩ := h.o.cellAt hj
  have hc : isCell u = true := by obtain ⟨_, _, _, h3⟩ := hu; exact Loc.cell h3
  exact Wo_store hw (ops_store ht hx hy hc h1 h2) (hk _ (h.set hj hu hlu hlo) (Only.setCell (List.mem_singleton.2 rfl)) (fun k h3 => heap_setCell_other u h3) (size_setCell _ _))

/-! ### own rows of rows -/
/-- The place of row i. -/
def RowAt (w : World) (v : Value) (i br n cr : Nat) : Prop := ∃ b m c, v = .slice (some ⟨b, 0, none⟩) m c ∧ br ≠ b ∧ w.cell? ⟨b, i, none⟩ = some (.slice (some ⟨br, 0, none⟩) n cr)
theorem RowAt.of_heap {w' : World} {m : Nat} (h : RowAt w v i br m cr) (hk : ∀ k, k ≠ br → w'.heap[k]? = w.heap[k]?) : RowAt w' v i br m cr := by
  obtain ⟨b, m', c, rfl, h1, h2⟩ := h
  refine ⟨b, m', c, rfl, h1, ?_⟩
  rw [World.cell?_of_block (hk b (fun e => h1 e.symm)), h2]
theorem RowAt.ext {w' : World} {m : Nat} (h : RowAt w v i br m cr) (e : Ext w w') : RowAt w' v i br m cr := by
  obtain ⟨b, m', c, rfl, h1, h2⟩ := h
  exact ⟨b, m', c, rfl, h1, e.cell h2⟩
theorem Owned.rowAt {p : List (List Int)} (h : Owned lo (XSl e (XSl e2 XInt)) w v p) (hi : i < p.length) (hn : 0 < p[i].length) : ∃ br cr, RowAt w v i br p[i].length cr ∧ lo ≤ br ∧ br < w.heap.size := by
  obtain ⟨fp, h1, h2, cs, fps, h3, rfl, h5⟩ := h
  obtain ⟨f, u, h6, h7, h8⟩ := h5.at hi
  rcases h3.2 with ⟨rfl, h9⟩ | ⟨g, cap, cur, rfl, _⟩
  · omega
  obtain ⟨cs', fps', k3, rfl, k5⟩ := h8
  have hlt := k3.lt
  rcases k3.2 with ⟨rfl, h9⟩ | ⟨g', cap', cur', rfl, _⟩
  · omega
  have hmem : g' ∈ fps.flatten := List.mem_flatten.2 ⟨_, List.mem_of_getElem? h6, by simp [Value.ownBlock]⟩
  have h1' : (g :: fps.flatten).Nodup := h1
  rw [List.nodup_cons] at h1'
  refine ⟨g', cap', ⟨g, _, _, rfl, fun e => h1'.1 (by rw [← e]; exact hmem), ?_⟩, h2 g' (List.mem_append_right _ hmem), (hlt g' rfl).2⟩
  have hl := h5.len
  rw [h3.cellAt i (by omega), h7]
theorem Only.ext1 {b : Nat} (h : Only [b] w w0) {w' : World} (e : Ext w' w) (hb : w'.heap.size ≤ b) : Ext w' w0 := h.ext e (fun k hk => by rw [List.mem_singleton.1 hk]; exact hb)
theorem Owned.setRow {p : List (List Int)} {m : Nat} {q : Int} (h : Owned lo (XSl e (XSl e2 XInt)) w v p) (hi : i < p.length) (hR : RowAt w v i br m cr) (hj : j < p[i].length) :
    Owned lo (XSl e (XSl e2 XInt)) (w.setCell ⟨br, j, none⟩ (.int .i64 q)) v (p.set i (p[i].set j q)) ∧ lo ≤ br ∧ ∃ u, w.cell? ⟨br, j, none⟩ = some u ∧ w.frozen? ⟨br, j, none⟩ = false := by
  obtain ⟨fp, h1, h2, cs, fps, h3, rfl, h5⟩ := h
  obtain ⟨f, u, h6, h7, h8⟩ := h5.at hi
  have hl := h5.len
  obtain ⟨b, m', c, rfl, hne, hcell⟩ := hR
  have hm : m' = p.length := by
    rcases h3.2 with ⟨h6, _⟩ | ⟨g, cap, cur, h6, _⟩
    · cases h6
    · cases h6; rfl
  subst hm
  rw [h3.cellAt i (by omega), h7] at hcell
  cases hcell
  have h8' := h8
  obtain ⟨cs', fps', k3, rfl, k5⟩ := h8
  have hmm : m = p[i].length := by
    rcases k3.2 with ⟨h6, _⟩ | ⟨g, cap, cur, h6, _⟩
    · cases h6
    · cases h6; rfl
  subst hmm
  have hfl : ∀ {fps' : List (List Nat)} {cs' : List Value} {xs : List Int}, XAll XInt w fps' cs' xs → fps'.flatten = [] := by
    intro fps'
    induction fps' with
    | nil => intro _ _ _; rfl
    | cons f fs ih =>
      intro cs' xs h
      cases cs' with
      | nil => exact h.elim
      | cons c cs' => cases xs with
        | nil => exact h.elim
        | cons x xs => rw [List.flatten_cons, h.1.1, ih h.2]; rfl
  have hf0 := hfl k5
  have hmem : ∀ k ∈ (Value.slice (some ⟨br, 0, none⟩) p[i].length cr).ownBlock.toList ++ fps'.flatten, k = br := by
    intro k hk
    rw [hf0] at hk
    simpa [Value.ownBlock] using hk
  have hbm : br ∈ fps.flatten := List.mem_flatten.2 ⟨_, List.mem_of_getElem? h6, by simp [Value.ownBlock]⟩
  have hst := k3.stored j (.int .i64 q)
  have h1' : (b :: fps.flatten).Nodup := h1
  rw [List.nodup_cons] at h1'
  have kl := k5.len
  refine ⟨?_, h2 br (List.mem_append_right _ hbm), cs'[j]'(by omega), ?_, k3.frozenAt j⟩
  · have hnew : XSl e2 XInt (w.setCell ⟨br, j, none⟩ (.int .i64 q)) ((Value.slice (some ⟨br, 0, none⟩) p[i].length cr).ownBlock.toList ++ fps'.flatten) (.slice (some ⟨br, 0, none⟩) p[i].length cr) (p[i].set j q) := by
      have hfi : fps'.set j [] = fps' := by
        obtain ⟨f', c', h6', h7', h8'⟩ := k5.at hj
        rw [h8'.1] at h6'
        apply List.ext_getElem?
        intro a
        rw [List.getElem?_set]
        split
        · rename_i e; subst e; have hh := (List.getElem?_eq_some_iff.1 h6').1; rw [h6']; simp; omega
        · rfl
      refine ⟨cs'.set j (.int .i64 q), fps', by simpa using hst.1, rfl, ?_⟩
      have := k5.turned (w' := w.setCell ⟨br, j, none⟩ (.int .i64 q)) (f := []) (u := .int .i64 q) (x := q) hj ⟨rfl, rfl⟩ (fun m' g' hm hg k hk => by
        exfalso
        have : k ∈ fps'.flatten := List.mem_flatten.2 ⟨g', List.mem_of_getElem? hg, hk⟩
        rw [hf0] at this; cases this)
      rw [hfi] at this
      exact this
    have hsame : fps.set i ((Value.slice (some ⟨br, 0, none⟩) p[i].length cr).ownBlock.toList ++ fps'.flatten) = fps := by
      apply List.ext_getElem?
      intro a
      rw [List.getElem?_set]
      split
      · rename_i e; subst e; have hh := (List.getElem?_eq_some_iff.1 h6).1; rw [h6]; simp; omega
      · rfl
    have hcsame : cs.set i (.slice (some ⟨br, 0, none⟩) p[i].length cr) = cs := by
      apply List.ext_getElem?
      intro a
      rw [List.getElem?_set]
      split
      · rename_i e; subst e; have hh := (List.getElem?_eq_some_iff.1 h7).1; rw [h7]; simp; omega
      · rfl
    refine ⟨_, h1, h2, cs, fps, ?_, rfl, ?_⟩
    · have : (p.set i (p[i].set j q)).length = p.length := by simp
      rw [this]
      exact ownsRow_loc (fun k hk => by
        have hk' : b = k := by simpa [Value.ownBlock] using hk
        subst hk'; exact heap_setCell_other _ (fun e => hne e.symm)) h3
    · have := h5.turned (w' := w.setCell ⟨br, j, none⟩ (.int .i64 q)) hi hnew (fun m' g' hm hg k hk => heap_setCell_other _ (fun e => by
        simp only at e
        subst e
        -- k = br lies in row i and in row m'
        have hnd := h1'.2
        exact flatten_apart hnd h6 hg (fun e => hm e.symm) (by simp [Value.ownBlock]) hk))
      rw [hsame, hcsame] at this
      exact this
  · rw [k3.cellAt j (by omega)]
    simp
/-- p[i] of own rows: where it lies. -/
theorem Wo_rowAt (ht : P.underlying t = some (.slice el')) (hs : ∀ w, (sizeOf el').run P w = .ok 1 w) (hta : ∀ w, (isAgg tl).run P w = .ok false w)
    (hw : wantedE all ⟨some d, .indexAddr t x y, ty, pos, after, g⟩ ρ = true)
    (hw2 : ∀ v, wantedE all ⟨some d2, .load tl (.tmp d), ty2, pos2, after2, g2⟩ (upd ρ d v) = true)
    {m : Nat} {a : Int} (hx : evalE ρ x = v) (hv : ∃ b c, v = .slice (some ⟨b, 0, none⟩) m c) (hy : evalE ρ y = .int .i64 a) (hR : RowAt w v a.toNat br i cr) (ha : 0 ≤ a ∧ a.toNat < m)
    (hk : ∀ ad, Wops P n all rest N (upd (upd ρ d (.pointer (some ad))) d2 (.slice (some ⟨br, 0, none⟩) i cr)) w) :
    Wops P n all (⟨some d, .indexAddr t x y, ty, pos, after, g⟩ :: ⟨some d2, .load tl (.tmp d), ty2, pos2, after2, g2⟩ :: rest) N ρ w := by
  obtain ⟨b, c, rfl⟩ := hv
  obtain ⟨b', m', c', e, hne, hc⟩ := hR
  cases e
  refine Wo hw (opv_indexAddr ht hs hx (by rw [hy, toNat_cast ha.1]) ha.2) ?_
  have hc' : w.cell? ⟨b, 0 + a.toNat, none⟩ = some (.slice (some ⟨br, 0, none⟩) i cr) := by rw [Nat.zero_add]; exact hc
  refine Wo (hw2 _) (opv_load hta ?_ hc') (hk _)
  show upd ρ d _ d = _
  unfold upd; rw [Nat.beq_refl]; rfl
/-- p[i][j] = q in own rows. -/
theorem Wo_gset {p : List (List Int)} {m : Nat} {q : Int} (hw : wantedE all ⟨none, .store t x y, ty, pos, after, g⟩ ρ = true) (ht : ∀ w, (sizeOf t).run P w = .ok 1 w) (hx : evalE ρ x = .pointer (some ⟨br, 0 + j, none⟩)) (hy : evalE ρ y = .int .i64 q)
    {hi' : Nat} (h : OwnedB lo hi' (XSl e (XSl e2 XInt)) w v p) (hR : RowAt w v i br m cr) (hi : i < p.length) (hj : j < p[i].length)
    (hk : ∀ w1, Owned lo (XSl e (XSl e2 XInt)) w1 v (p.set i (p[i].set j q)) → RowAt w1 v i br m cr → Only [br] w w1 → (∀ k, k ≠ br → w1.heap[k]? = w.heap[k]?) → w1.heap.size = w.heap.size → Wops P n all rest N ρ w1) :
    Wops P n all (⟨none, .store t x y, ty, pos, after, g⟩ :: rest) N ρ w := by
  rw [Nat.zero_add] at hx
  obtain ⟨h1, h2, u, h3, h4⟩ := h.o.setRow (q := q) hi hR hj
  have hf : ∀ k, k ≠ br → (w.setCell ⟨br, j, none⟩ (.int .i64 q)).heap[k]? = w.heap[k]? := fun k h3 => heap_setCell_other _ h3
  exact Wo_store hw (ops_store ht hx hy rfl h3 h4) (hk _ h1 (hR.of_heap hf) (Only.setCell (List.mem_singleton.2 rfl)) hf (size_setCell _ _))
end

theorem opv_indexAddr_z {P : Program} {ρ : Env} {w : World} {ty ts el : TypeId} {x y : Operand} {len cap b o : Nat} {z : Int} (ht : P.underlying ts = some (.slice el)) (hs : ∀ w, (sizeOf el).run P w = .ok 1 w) (hx : evalE ρ x = .slice (some ⟨b, o, none⟩) len cap) (hy : evalE ρ y = .int .i64 z)
    (hk : 0 ≤ z ∧ z.toNat < len) : OpV P (.indexAddr ts x y) ty ρ w (.pointer (some ⟨b, o + z.toNat, none⟩)) := opv_indexAddr ht hs hx (by rw [hy, toNat_cast hk.1]) hk.2
/-! ### function values -/
section
variable {P : Program} {ρ : Env} {w : World} {ty : TypeId}
theorem opc_val {f : FuncId} {first cap : List Value} {x : Operand} {args : Array Operand} {ts : Array TypeId} {vs : List Value} (hc : ∀ args w, Sem.run P (callFunc f args) w = .ok (.enter f args) w)
    (hx : evalE ρ x = .func (.func f) first.toArray cap.toArray) (ha : args.toList.map (evalE ρ) = vs) :
    OpC P (.call { callee := .value x, args := args, argTypes := ts }) ty ρ w f (first ++ vs ++ cap) := by
  subst ha
  unfold OpC execOp
  simp only [resolve, hx, Deferred.ofValue]
  show Sem.run P (callFunc f (first.toArray ++ args.map (evalE ρ) ++ cap.toArray)) w = _
  rw [hc]
  congr 2
  apply Array.ext'
  simp
theorem opc_val1 {f : FuncId} {cap : List Value} {x x0 : Operand} {ts : Array TypeId} {a : Value} (hc : ∀ args w, Sem.run P (callFunc f args) w = .ok (.enter f args) w)
    (hx : evalE ρ x = .func (.func f) [].toArray cap.toArray) (h0 : evalE ρ x0 = a) :
    OpC P (.call { callee := .value x, args := #[x0], argTypes := ts }) ty ρ w f (a :: cap) := opc_val (first := []) (vs := [a]) hc hx (by simp [h0])
theorem opc_val0 {f : FuncId} {cap : List Value} {x : Operand} {ts : Array TypeId} (hc : ∀ args w, Sem.run P (callFunc f args) w = .ok (.enter f args) w)
    (hx : evalE ρ x = .func (.func f) [].toArray cap.toArray) :
    OpC P (.call { callee := .value x, args := #[], argTypes := ts }) ty ρ w f cap := opc_val (first := []) (vs := []) hc hx (by simp)
end
section
variable {P : Program} {n : Nat} {N : Env → World → Prop} {ρ : Env} {w : World} {all : Array Oper} {rest : List Oper} {d : Nat} {ty t : TypeId} {pos : String} {after : Array Edge} {g : Option (Nat × Bool)} {z : Value}
/-- a variable that lies in memory -/
theorem Wo_alloc (hw : wantedE all ⟨some d, .alloc t, ty, pos, after, g⟩ ρ = true) (hz : ∀ w, (zeroValue t).run P w = .ok z w) (h1 : isCell z = true)
    (hk : ∀ b w1, w.heap.size ≤ b → Ext w w1 → Blk w1 b [z] → Wops P n all rest N (upd ρ d (.pointer (some ⟨b, 0, none⟩))) w1) :
    Wops P n all (⟨some d, .alloc t, ty, pos, after, g⟩ :: rest) N ρ w := by
  refine Wo_run (v := .pointer (some ⟨w.heap.size, 0, none⟩)) (w' := w.alloc (.cells [z].toArray t)) hw ?_ (hk _ _ (Nat.le_refl _) ((Ext.refl w).alloc _) (Blk.new w [z] t))
  simp [execOp, Instr.alloc, newVar, newRow, hz, isCell_cells h1]
end

/-! ### what a call turns -/
/-- Nothing outside lo .. hi has turned. -/
structure Span (lo hi : Nat) (w w' : World) : Prop where
  os : w'.os = w.os
  tape : w'.tape = w.tape
  output : w'.output = w.output
  size : w.heap.size ≤ w'.heap.size
  block : ∀ k, (k < lo ∨ hi ≤ k) → k < w.heap.size → w'.heap[k]? = w.heap[k]?
section
variable {α : Type} {X : World → List Nat → Value → α → Prop} {E : World → Value → α → Prop} {w w' w'' w0 : World} {v u : Value} {x : α} {xs : List α} {e : TypeId} {lo hi lt ht b i : Nat} {fp : List Nat}
theorem Span.of_only (h : Only fp w w') (hf : ∀ k ∈ fp, lo ≤ k ∧ k < hi) : Span lo hi w w' := ⟨h.os, h.tape, h.output, h.size, fun k hk hl => h.block k (fun hm => by have := hf k hm; omega) hl⟩
theorem Ext.span (h : Ext w0 w) (s : Span lo hi w w') (hl : w0.heap.size ≤ lo) : Ext w0 w' :=
  ⟨s.os.trans h.os, s.tape.trans h.tape, s.output.trans h.output, Nat.le_trans h.size s.size, fun k hk => (s.block k (by omega) (Nat.lt_of_lt_of_le hk h.size)).trans (h.block k hk)⟩
theorem OwnedB.span [Loc X] (h : OwnedB lt ht X w v x) (s : Span lo hi w w') (hd : ht ≤ lo ∨ hi ≤ lt) : OwnedB lt ht X w' v x := by
  obtain ⟨fp, h1, h2, h3⟩ := h
  exact ⟨fp, h1, h2, Loc.loc (fun k hk => s.block k (by have := h2 k hk; omega) (Loc.lt h3 k hk)) h3⟩
theorem Above.span (h : Above lt E w v x) (s : Span lo hi w w') (hd : hi ≤ lt) : Above lt E w' v x := h.keep (fun k h1 h2 => s.block k (by omega) h2) s.size
theorem Blk.span {cs : List Value} (h : Blk w b cs) (s : Span lo hi w w') (hd : b < lo ∨ hi ≤ b) : Blk w' b cs := h.of_heap (s.block b hd h.lt)
theorem Span.refl : Span lo hi w w := ⟨rfl, rfl, rfl, Nat.le_refl _, fun _ _ _ => rfl⟩
theorem Span.trans (h : Span lo hi w w') (k : Span lo hi w' w'') : Span lo hi w w'' :=
  ⟨k.os.trans h.os, k.tape.trans h.tape, k.output.trans h.output, Nat.le_trans h.size k.size, fun i h1 h2 => (k.block i h1 (Nat.lt_of_lt_of_le h2 h.size)).trans (h.block i h1 h2)⟩
theorem Span.mono {lo' hi' : Nat} (h : Span lo hi w w') (h1 : lo' ≤ lo) (h2 : hi ≤ hi') : Span lo' hi' w w' := ⟨h.os, h.tape, h.output, h.size, fun k hk hl => h.block k (by omega) hl⟩
theorem Span.only1 (h : Only [b] w w') (h1 : lo ≤ b) (h2 : b < hi) : Span lo hi w w' := Span.of_only h (fun k hk => by rw [List.mem_singleton.1 hk]; exact ⟨h1, h2⟩)
theorem OwnedB.only (h : OwnedB lo hi X w v x) : ∃ fp, fp.Nodup ∧ (∀ k ∈ fp, lo ≤ k ∧ k < hi) ∧ X w fp v x := h
/-- An element of exclusive data, and the whole when it has turned. -/
theorem XSl.lens [Loc X] (h : XSl e X w fp v xs) (hn : fp.Nodup) (hi : i < xs.length) : ∃ b c f u, v = .slice (some ⟨b, 0, none⟩) xs.length c ∧ w.cell? ⟨b, i, none⟩ = some u ∧ X w f u xs[i] ∧ f.Nodup ∧ (∀ k ∈ f, k ∈ fp) ∧
    ∀ w' x', (∀ k, k ∉ f → k < w.heap.size → w'.heap[k]? = w.heap[k]?) → X w' f u x' → XSl e X w' fp v (xs.set i x') := by
  have hlt := Loc.lt h
  obtain ⟨cs, fps, h3, rfl, h5⟩ := h
  obtain ⟨f, u, h6, h7, h8⟩ := h5.at hi
  have hl := h5.len
  rcases h3.2 with ⟨rfl, h9⟩ | ⟨g, cap, cur, rfl, _⟩
  · omega
  have h1' : (g :: fps.flatten).Nodup := hn
  rw [List.nodup_cons] at h1'
  have hsub : ∀ k ∈ f, k ∈ fps.flatten := fun k hk => List.mem_flatten.2 ⟨_, List.mem_of_getElem? h6, hk⟩
  have hfn : f.Nodup := by
    have := h1'.2
    have key : ∀ {fs : List (List Nat)} {f : List Nat}, fs.flatten.Nodup → f ∈ fs → f.Nodup := by
      intro fs
      induction fs with
      | nil => intro f _ h; cases h
      | cons a fs ih =>
        intro f h hm
        rw [List.flatten_cons, List.nodup_append] at h
        rcases List.mem_cons.1 hm with rfl | hm
        · exact h.1
        · exact ih h.2.1 hm
    exact key this (List.mem_of_getElem? h6)
  refine ⟨g, cap, f, u, rfl, by rw [h3.cellAt i (by omega), h7], h8, hfn, fun k hk => List.mem_append_right _ (hsub k hk), fun w' x' hk hx => ⟨cs, fps, ?_, rfl, ?_⟩⟩
  · have : (xs.set i x').length = xs.length := by simp
    rw [this]
    refine ownsRow_loc (fun k hk' => ?_) h3
    have hk' : g = k := by simpa [Value.ownBlock] using hk'
    subst hk'
    exact hk g (fun hm => h1'.1 (hsub g hm)) (hlt g (by simp [Value.ownBlock]))
  · have := h5.turned hi hx (fun m g' hm hg k hk' => hk k (fun hf => flatten_apart h1'.2 h6 hg (fun e => hm e.symm) hf hk') (hlt k (List.mem_append_right _ (List.mem_flatten.2 ⟨_, List.mem_of_getElem? hg, hk'⟩))))
    have hs1 : fps.set i f = fps := by
      apply List.ext_getElem?
      intro a
      rw [List.getElem?_set]
      split
      · rename_i e; subst e; have hh := (List.getElem?_eq_some_iff.1 h6).1; rw [h6]; simp; omega
      · rfl
    have hs2 : cs.set i u = cs := by
      apply List.ext_getElem?
      intro a
      rw [List.getElem?_set]
      split
      · rename_i e; subst e; have hh := (List.getElem?_eq_some_iff.1 h7).1; rw [h7]; simp; omega
      · rfl
    rw [hs1, hs2] at this
    exact this
theorem Ext.wroteAt {a w1 : World} (p : Ext a w) (e0 : Ext w0 w) (e : Ext w0 w1) (K : ∀ k, k ≠ b → w1.heap[k]? = w.heap[k]?) (hz : w1.heap.size = w.heap.size) (hb : a.heap.size ≤ b) : Ext a w1 :=
  ⟨e.os.trans (e0.os.symm.trans p.os), e.tape.trans (e0.tape.symm.trans p.tape), e.output.trans (e0.output.symm.trans p.output), by rw [hz]; exact p.size, fun k hk => (K k (by omega)).trans (p.block k hk)⟩
/-- What a call leaves that turns one's own data, and hands back this value. -/
def RetSO (lo hi : Nat) (w : World) (r : Value) (X : World → List Nat → Value → α → Prop) (u : Value) (x : α) : Value → World → Prop := fun v w' => v = r ∧ Span lo hi w w' ∧ OwnedB lo hi X w' u x
/-- What a call leaves that turns what lies in lo .. hi. -/
def RetS {β : Type} (lo hi : Nat) (w : World) (val : β → Value) (p : β → World → Prop) : Value → World → Prop := fun v w' => ∃ y, v = val y ∧ Span lo hi w w' ∧ p y w'
end
end Go.Hs
