/- What is drawn beside data of the call's own. -/
import Derived.Test.YtgphoihilheoeaaDoorHsHeld
import Derived.Test.YtgphoihilheoeaaDoorHsSet
set_option linter.unusedVariables false
namespace Go.Hs
section
variable {α : Type} {X : World → List Nat → Value → α → Prop} {w w' w0 w1 : World} {v u v' : Value} {x : α} {xs : List α} {lo hi lt ht br m i n cr : Nat} {e : TypeId}
theorem OwnedB.grown [Loc X] (h : OwnedB lo hi X w v x) (g : w.grownBy w' (some br)) (hb : br < lo ∨ hi ≤ br) : OwnedB lo hi X w' v x := by
  obtain ⟨fp, h1, h2, h3⟩ := h
  exact ⟨fp, h1, h2, Loc.loc (fun k hk => g.block k (Loc.lt h3 k hk) (by have := h2 k hk; simp; omega)) h3⟩
theorem RowAt.grown (h : RowAt w v i n m cr) (g : w.grownBy w' (some br)) (hv : v.ownBlock ≠ some br) : RowAt w' v i n m cr := by
  obtain ⟨b, m', c, rfl, h1, h2⟩ := h
  have hne : b ≠ br := fun e => hv (by simp [Value.ownBlock, e])
  exact ⟨b, m', c, rfl, h1, by rw [← h2]; exact World.cell?_of_block (g.block b (World.block_lt_of_cell? _ _ h2) (by simp [hne]))⟩
theorem own_notin (k : OwnedB lt ht (XSl e X) w v xs) {b : Nat} (hd : ht ≤ b ∨ b < lt) : some b ≠ v.ownBlock := by
  intro h
  obtain ⟨fq, k1, k2, cs, fps, k3, rfl, k4⟩ := k
  have := k2 b (by simp [← h])
  omega
theorem Rdr.moves (h : Rdr w0 w br m) (E : Ext w0 w') (M : Moves w v w' v') (k : OwnedB lt ht (XSl e X) w v xs) (hd : ht ≤ br ∨ br < lt) : Rdr w0 w' br m := by
  obtain ⟨h1, h2, h3, vb, bs, p, h4, h5, h6, h7⟩ := h
  exact ⟨E, h2, Nat.lt_of_lt_of_le h3 M.1.size, vb, bs, p, h4, h5, h6.of_heap (M.1.block br h3 (own_notin k hd)), h7⟩
theorem grownBy_moves (h : w1.grownBy w (some br)) (M : Moves w v w' v') (k : OwnedB lt ht (XSl e X) w v xs) (hd : w1.heap.size ≤ lt) : w1.grownBy w' (some br) := by
  exact ⟨M.1.os.trans h.os, M.1.tape.trans h.tape, M.1.output.trans h.output, Nat.le_trans h.size M.1.size, fun j hj hr => (M.1.block j (Nat.lt_of_lt_of_le hj h.size) (own_notin k (.inr (by omega)))).trans (h.block j hj hr)⟩
/-- What a draw leaves that hands back data of its own. -/
def RetDO (w0 w : World) (br m : Nat) (X : World → List Nat → Value → α → Prop) (p : α → Prop) : Value → World → Prop := fun v w' => w.grownBy w' (some br) ∧ Rdr w0 w' br m ∧ ∃ x, Owned w.heap.size X w' v x ∧ p x
/-- .. and a number beside it. -/
def RetDT (w0 w : World) (br m : Nat) (X : World → List Nat → Value → α → Prop) (p : α → Int → Prop) : Value → World → Prop := fun v w' => ∃ u z x, v = .tuple #[u, .int .i64 z] ∧ w.grownBy w' (some br) ∧ Rdr w0 w' br m ∧ Owned w.heap.size X w' u x ∧ p x z
/-- What a call leaves that draws a text, data of its own, and a number. -/
def RetT3 (w : World) (X : World → List Nat → Value → α → Prop) (p : List UInt8 → α → Int → Prop) : Value → World → Prop := fun v w' => ∃ s u z x, v = .tuple #[str s, u, .int .i64 z] ∧ Ext w w' ∧ Owned w.heap.size X w' u x ∧ p s x z
/-- .. a text and data of its own. -/
def RetT2 (w : World) (X : World → List Nat → Value → α → Prop) (p : List UInt8 → α → Prop) : Value → World → Prop := fun v w' => ∃ s u x, v = .tuple #[str s, u] ∧ Ext w w' ∧ Owned w.heap.size X w' u x ∧ p s x
/-- .. data of its own, and a number. -/
def RetTN (w : World) (X : World → List Nat → Value → α → Prop) (p : α → Int → Prop) : Value → World → Prop := fun v w' => ∃ u z x, v = .tuple #[u, .int .i64 z] ∧ Ext w w' ∧ Owned w.heap.size X w' u x ∧ p x z
end
section
variable {w w' : World} {v v' : Value} {lo hi lo' i m cr b n c brw : Nat} {e e2 : TypeId} {p : List (List Int)} {row : List Int}
theorem slice_len {w : World} {e : TypeId} {a : Option Addr} {n m c : Nat} {cs : List Value} (h : w.ownsRow 0 e 1 (.slice a n c) m cs) : n = m := by
  rcases h.2 with ⟨h6, h7⟩ | ⟨g, cap, cur, h6, _⟩
  · cases h6; exact h7.symm
  · cases h6; rfl
/-- A row of own rows is an own one. -/
theorem OwnedB.rowOwn (h : OwnedB lo hi (XSl e (XSl e2 XInt)) w v p) (hR : RowAt w v i brw m cr) (hi' : i < p.length) : m = p[i].length ∧ OwnedB brw (brw + 1) (XSl e2 XInt) w (.slice (some ⟨brw, 0, none⟩) m cr) p[i] := by
  obtain ⟨fp, h1, h2, cs, fps, h3, rfl, h5⟩ := h
  obtain ⟨f, u, h6, h7, h8⟩ := h5.at hi'
  obtain ⟨b, m', c, rfl, hne, hcell⟩ := hR
  have hl := h5.len
  have := slice_len h3
  subst this
  rw [h3.cellAt i (by omega), h7] at hcell
  cases hcell
  have hf := XI_fp h8
  subst hf
  have h8' := h8
  obtain ⟨cs', fps', k3, _, _⟩ := h8'
  exact ⟨slice_len k3, _, by simp [Value.ownBlock], fun k hk => by simp [Value.ownBlock] at hk; omega, h8⟩
/-- A row appended to, and put back. -/
theorem OwnedB.rowBack (h : OwnedB lo hi (XSl e (XSl e2 XInt)) w (.slice (some ⟨b, 0, none⟩) n c) p) (hR : RowAt w (.slice (some ⟨b, 0, none⟩) n c) i brw m cr) (hi' : i < p.length)
    (M : Moves w (.slice (some ⟨brw, 0, none⟩) m cr) w' v') (hN : Owned lo' (XSl e2 XInt) w' v' row) (hlo : lo ≤ w.heap.size) :
    Owned lo (XSl e (XSl e2 XInt)) (w'.setCell ⟨b, i, none⟩ v') (.slice (some ⟨b, 0, none⟩) n c) (p.set i row) ∧ isCell v' = true ∧ (∃ u, w'.cell? ⟨b, i, none⟩ = some u) ∧ w'.frozen? ⟨b, i, none⟩ = false := by
  obtain ⟨fp, h1, h2, cs, fps, h3, rfl, h5⟩ := h
  obtain ⟨f, u, h6, h7, h8⟩ := h5.at hi'
  obtain ⟨b', m', c', ee, hne, hcell⟩ := hR
  simp only [Value.slice.injEq, Option.some.injEq, Addr.mk.injEq] at ee
  obtain ⟨⟨rfl, _⟩, rfl, rfl⟩ := ee
  have hl := h5.len
  have := slice_len h3
  subst this
  rw [h3.cellAt i (by omega), h7] at hcell
  cases hcell
  have hf := XI_fp h8
  subst hf
  obtain ⟨fn, n1, n2, hX⟩ := hN
  have hfn := XI_fp hX
  have h1' : (b :: fps.flatten).Nodup := h1
  rw [List.nodup_cons] at h1'
  have hltf := h5.lt
  have hblt : b < w.heap.size := (h3.lt b rfl).2
  have hbrw : brw ∈ fps.flatten := List.mem_flatten.2 ⟨_, List.mem_of_getElem? h6, by simp [Value.ownBlock]⟩
  have hsame : ∀ k, k < w.heap.size → k ≠ brw → w'.heap[k]? = w.heap[k]? := fun k hk hk' => M.1.block k hk (by simp [Value.ownBlock]; exact hk')
  have hfr : ∀ k ∈ fn, k = brw ∨ w.heap.size ≤ k := by
    intro k hk
    rw [hfn] at hk
    rcases M.2 with h9 | ⟨g, h9, hg⟩
    · rw [h9] at hk; simp [Value.ownBlock] at hk; exact .inl hk
    · rw [h9] at hk; simp at hk; right; omega
  have hbfn : b ∉ fn := fun hm => by
    rcases hfr b hm with h9 | h9
    · exact hne h9.symm
    · omega
  have h3' : w'.ownsRow 0 e 1 (.slice (some ⟨b, 0, none⟩) p.length c) p.length cs := ownsRow_loc (fun k hk => by
    have : b = k := by simpa [Value.ownBlock] using hk
    subst this
    exact hsame b hblt (fun e => hne e.symm)) h3
  have hst := h3'.stored i v'
  have hd : ∀ (j : Nat) g, j ≠ i → fps[j]? = some g → ∀ k ∈ g, k ≠ brw ∧ k ∈ fps.flatten := fun j g hj hg k hk =>
    ⟨fun e => flatten_apart h1'.2 h6 hg (fun e => hj e.symm) (by simp [Value.ownBlock, e]) hk, List.mem_flatten.2 ⟨g, List.mem_of_getElem? hg, hk⟩⟩
  have key : ∀ (fs : List (List Nat)) (i : Nat), fs.flatten.Nodup → fn.Nodup → (∀ (j : Nat) g, j ≠ i → fs[j]? = some g → ∀ k ∈ g, k ∉ fn) → (fs.set i fn).flatten.Nodup ∧ ∀ k ∈ (fs.set i fn).flatten, k ∈ fn ∨ k ∈ fs.flatten := by
    intro fs
    induction fs with
    | nil => intro i h1 h2 h3; simp
    | cons g fs ih =>
      intro i k1 k2 k3
      rw [List.flatten_cons, List.nodup_append] at k1
      cases i with
      | zero =>
        simp only [List.set_cons_zero, List.flatten_cons]
        refine ⟨List.nodup_append.2 ⟨k2, k1.2.1, fun a ha b hb hab => ?_⟩, fun k hk => ?_⟩
        · obtain ⟨g', hg', hb'⟩ := List.mem_flatten.1 hb
          obtain ⟨j, hj, rfl⟩ := List.mem_iff_getElem.1 hg'
          exact k3 (j + 1) _ (by omega) (by simp [hj]) b hb' (hab ▸ ha)
        · rcases List.mem_append.1 hk with hk | hk
          · exact .inl hk
          · exact .inr (List.mem_append_right _ hk)
      | succ i =>
        obtain ⟨q1, q2⟩ := ih i k1.2.1 k2 (fun j g' hj hg k hk => k3 (j + 1) g' (by omega) (by simpa using hg) k hk)
        simp only [List.set_cons_succ, List.flatten_cons]
        refine ⟨List.nodup_append.2 ⟨k1.1, q1, fun a ha b hb hab => ?_⟩, fun k hk => ?_⟩
        · subst hab
          rcases q2 a hb with h9 | h9
          · exact k3 0 g (by omega) rfl a ha h9
          · exact k1.2.2 a ha a h9 rfl
        · rcases List.mem_append.1 hk with hk | hk
          · exact .inr (List.mem_append_left _ hk)
          · rcases q2 k hk with h9 | h9
            · exact .inl h9
            · exact .inr (List.mem_append_right _ h9)
  obtain ⟨q1, q2⟩ := key fps i h1'.2 n1 (fun j g hj hg k hk hm => by
    obtain ⟨r1, r2⟩ := hd j g hj hg k hk
    rcases hfr k hm with h9 | h9
    · exact r1 h9
    · have := hltf k r2; omega)
  refine ⟨⟨b :: (fps.set i fn).flatten, List.nodup_cons.2 ⟨fun hm => ?_, q1⟩, fun k hk => ?_, cs.set i v', fps.set i fn, ?_, rfl, ?_⟩, Loc.cell hX, ?_, h3'.frozenAt i⟩
  · rcases q2 b hm with h9 | h9
    · exact hbfn h9
    · exact h1'.1 h9
  · rcases List.mem_cons.1 hk with rfl | hk
    · exact (h2 k (by simp [Value.ownBlock])).1
    · rcases q2 k hk with h9 | h9
      · rcases hfr k h9 with h10 | h10
        · subst h10; exact (h2 k (List.mem_append_right _ hbrw)).1
        · omega
      · exact (h2 k (List.mem_append_right _ h9)).1
  · have : (p.set i row).length = p.length := by simp
    rw [this]; exact hst.1
  · refine h5.turned hi' (Loc.loc (fun k hk => heap_setCell_other _ (fun e => hbfn (by simp only at e; rw [← e]; exact hk))) hX) (fun j g hj hg k hk => ?_)
    obtain ⟨r1, r2⟩ := hd j g hj hg k hk
    rw [heap_setCell_other _ (fun e => h1'.1 (by simp only at e; rw [← e]; exact r2))]
    exact hsame k (hltf k r2) r1
  · exact ⟨cs[i]'(by omega), by rw [h3'.cellAt i (by omega)]; simp⟩
end
end Go.Hs
