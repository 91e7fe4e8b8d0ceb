/- Regions that draw their order: every order walked, what only computes taken first. And the reader that the draws read from. -/
import Derived.Test.YtgphoihilheoeaaDoorHsRead
import Derived.OrdersHeld
namespace Go.Hs

def Wh (P : Program) (n : Nat) (all : Array Oper) (S : World → Prop) (fuel : Nat) (listed : Array Bool) (N : Env → World → Prop) (ρ : Env) (w : World) : Prop :=
  dstsLt n all.toList = true → Region.noSelect all = true → ∀ a, Rep n ρ a → ∀ Q : Exit → Act → World → Prop, (∀ c a w, ¬ Q (.panic c) a w) → (∀ a' ρ' w', Rep n ρ' a' → N ρ' w' → Q .normal a' w') →
    wpAnyH P .any all Q S fuel listed a w

/-- Every one of these may come up next. -/
def WhAll (P : Program) (n : Nat) (all : Array Oper) (S : World → Prop) (fuel : Nat) (listed : Array Bool) (N : Env → World → Prop) (ρ : Env) (w : World) : List Nat → Prop
  | [] => True
  | i :: r => (∃ o, all[i]? = some o ∧ Wops P n all [o] (fun ρ' w' => S w' ∧ Wh P n all S fuel (listed.setIfInBounds i true) N ρ' w') ρ w) ∧ WhAll P n all S fuel listed N ρ w r

section
variable {P : Program} {n : Nat} {N : Env → World → Prop} {X : Nat → Env → World → Prop} {R : Env → World → Prop} {ρ : Env} {w : World} {all : Array Oper} {S : World → Prop} {fuel : Nat} {listed : Array Bool}
  {d : Nat} {op : Op} {ty : TypeId} {pos : String} {after : Array Edge} {g : Option (Nat × Bool)} {i : Nat}

theorem W_held {id : Nat} {ops : List Oper} (S : World → Prop) (hm : P.follows .mixedOrders = true) (hd : dstsLt n ops = true) (hs : Region.noSelect ops.toArray = true)
    (h : ∀ w1, Ext w w1 → (∀ k : Nat, w1.heap[k]? = w.heap[k]?) → w1.heap.size = w.heap.size → Wh P n ops.toArray S ops.length (Array.replicate ops.length false) N ρ w1) : W P n (.region id ops.toArray true) N X R ρ w := by
  unfold W
  intro a ha
  refine wp_region_held (S := S) hm ?_
  exact h { w with drawn := w.drawn + 1 } ((Ext.refl w).drawn _) (fun _ => rfl) rfl (by simpa using hd) hs a ha (post n N X R) (fun _ _ _ h => h) (fun a' ρ' w' h1 h2 => ⟨ρ', h1, h2⟩)

theorem Wh_take {v : Value} (i : Nat) (hi : all[i]? = some ⟨some d, op, ty, pos, after, g⟩) (hf : Region.free .any all listed i = true) (hr : (Region.ready .any all listed).contains i = true)
    (hw : wantedE all ⟨some d, op, ty, pos, after, g⟩ ρ = true) (hv : ∀ w', S w' → OpV P op ty ρ w' v) (hS : S w) (hk : Wh P n all S fuel (listed.setIfInBounds i true) N (upd ρ d v) w) :
    Wh P n all S (fuel + 1) listed N ρ w := by
  intro hd hs a ha Q hp hQ
  have hmem : (⟨some d, op, ty, pos, after, g⟩ : Oper) ∈ all.toList := Array.mem_toList_iff.2 (Array.mem_of_getElem? hi)
  refine wpAnyH_take (v := v) hi hs hf hr (fun c a w h => absurd h (hp _ _ _)) (.inl ⟨?_, fun w' hw' => ?_⟩) hS (hk hd hs _ (ha.put (dstsLt_mem hd _ hmem d rfl) v) Q hp hQ)
  · rw [wanted_eq ha hd, hw]
  · have : (execOp a.eval ⟨some d, op, ty, pos, after, g⟩) = (execOp a.eval ⟨none, op, ty, "", #[], none⟩) := by cases op <;> rfl
    rw [this, ha.eval]
    have := hv w' hw'
    unfold OpV at this
    exact this
theorem Wh_skip (i : Nat) (hi : all[i]? = some ⟨some d, op, ty, pos, after, g⟩) (hf : Region.free .any all listed i = true) (hr : (Region.ready .any all listed).contains i = true)
    (hw : wantedE all ⟨some d, op, ty, pos, after, g⟩ ρ = false) (hS : S w) (hk : Wh P n all S fuel (listed.setIfInBounds i true) N (upd ρ d undef) w) :
    Wh P n all S (fuel + 1) listed N ρ w := by
  intro hd hs a ha Q hp hQ
  have hmem : (⟨some d, op, ty, pos, after, g⟩ : Oper) ∈ all.toList := Array.mem_toList_iff.2 (Array.mem_of_getElem? hi)
  refine wpAnyH_take (v := undef) hi hs hf hr (fun c a w h => absurd h (hp _ _ _)) (.inr ⟨?_, rfl⟩) hS (hk hd hs _ (ha.put (dstsLt_mem hd _ hmem d rfl) undef) Q hp hQ)
  rw [wanted_eq ha hd, hw]
theorem Wh_done (hr : Region.ready .any all listed = []) (h : N ρ w) : Wh P n all S fuel listed N ρ w :=
  fun _ _ a ha _ _ hQ => wpAnyH_done hr (hQ a ρ w ha h) _

theorem wpOp_of_list {o : Oper} {a : Act} {K : Act → World → Prop} {Q : Exit → Act → World → Prop} (hi : all[i]? = some o)
    (h : wpList P all (fun e a w => match e with | .normal => K a w | e => Q e a w) [o] a w) : wpOp P all Q i K a w := by
  unfold wpOp
  rw [hi]
  simp only [wpList] at h ⊢
  split
  · rename_i hw
    simp only [hw, if_true] at h
    rcases h with h | ⟨h1, h2⟩
    · left
      unfold Oper.wp at *
      generalize (execOp a.eval o).run P w = r at *
      cases r with
      | ok n w' =>
        cases n <;> simp only [Oper.upon] at h ⊢ <;> first | exact h | exact Calls.mono h (fun e w'' he => by cases e <;> exact he) | exact Rows.mono h (fun _ _ he => he)
      | halt x w' => cases x <;> simp only [Oper.upon] at h ⊢ <;> exact h
    · exact .inr ⟨h1, h2⟩
  · rename_i hw
    simp only [hw] at h
    exact h
theorem Wh_all {rs : List Nat} (hr : Region.ready .any all listed = rs) (hne : rs.isEmpty = false) (h : WhAll P n all S fuel listed N ρ w rs) : Wh P n all S (fuel + 1) listed N ρ w := by
  intro hd hs a ha Q hp hQ
  refine wpAnyH_all hr (by rintro rfl; cases hne) ?_
  clear hr hne
  induction rs with
  | nil => intro i hi; cases hi
  | cons j r ih =>
    obtain ⟨⟨o, ho, hW⟩, h2⟩ := h
    intro i hi
    rcases List.mem_cons.1 hi with rfl | hi
    · refine wpOp_of_list ho ?_
      have hmem : o ∈ all.toList := Array.mem_toList_iff.2 (Array.mem_of_getElem? ho)
      unfold Wops at hW
      refine hW hd (fun x hx => by rw [List.mem_singleton.1 hx]; exact hmem) a ha _ ?_
      rintro a' ρ' w' h3 ⟨h4, h5⟩
      exact ⟨h4, h5 hd hs a' h3 Q hp hQ⟩
    · exact ih h2 i hi
theorem WhAll_nil : WhAll P n all S fuel listed N ρ w [] := trivial
theorem WhAll_cons {o : Oper} {r : List Nat} (hi : all[i]? = some o) (h : Wops P n all [o] (fun ρ' w' => S w' ∧ Wh P n all S fuel (listed.setIfInBounds i true) N ρ' w') ρ w)
    (h2 : WhAll P n all S fuel listed N ρ w r) : WhAll P n all S fuel listed N ρ w (i :: r) := ⟨⟨o, hi, h⟩, h2⟩

theorem opv_xor {a b : Int} {x y : Operand} {t t' : TypeId} (hx : evalE ρ x = .int .i64 a) (hy : evalE ρ y = .int .i64 b) (h : 0 ≤ a ∧ a ≤ 9223372036854775807 ∧ 0 ≤ b ∧ b ≤ 9223372036854775807) :
    OpV P (.binOp .xor t x y t') ty ρ w (.int .i64 ((a.toNat ^^^ b.toNat : Nat) : Int)) := by
  obtain ⟨A, rfl⟩ := Int.eq_ofNat_of_zero_le h.1
  obtain ⟨B, rfl⟩ := Int.eq_ofNat_of_zero_le h.2.2.1
  have hx' : A ^^^ B < 2 ^ 63 := Nat.xor_lt_two_pow (by omega) (by omega)
  have key : IntKind.i64.wrap ((BitVec.ofInt 64 (A : Int) ^^^ BitVec.ofInt 64 (B : Int)).toNat : Int) = ((A ^^^ B : Nat) : Int) := by
    have e1 : (BitVec.ofInt 64 (A : Int)).toNat = A := by simp; omega
    have e2 : (BitVec.ofInt 64 (B : Int)).toNat = B := by simp; omega
    rw [BitVec.toNat_xor, e1, e2, IntKind.wrap_i64]
    omega
  simp [OpV, execOp, hx, hy, eqGuard, binOp, Op.intBits]
  exact key
theorem opv_conv_int {s t : TypeId} {x : Operand} {k : IntKind} {a : Int} {T : TypeDesc} (hs : P.underlying s = some T) (ht : P.underlying t = some (.int .i64)) (hx : evalE ρ x = .int k a) (h : -9223372036854775808 ≤ a ∧ a ≤ 9223372036854775807) :
    OpV P (.convert s t x) ty ρ w (.int .i64 a) := by
  have e : IntKind.i64.wrap a = a := by rw [IntKind.wrap_i64]; omega
  have : (convert s t (.int k a)).run P w = .ok (.int .i64 a) w := by simp [convert, run_und hs, run_und ht, Conv.intToInt, e]
  simp [OpV, execOp, hx, this]
theorem xor_le {a b : Int} (h : 0 ≤ a ∧ a ≤ 9223372036854775807 ∧ 0 ≤ b ∧ b ≤ 9223372036854775807) : ((a.toNat ^^^ b.toNat : Nat) : Int) ≤ 9223372036854775807 := by
  have hx' : a.toNat ^^^ b.toNat < 2 ^ 63 := Nat.xor_lt_two_pow (by omega) (by omega)
  omega
end

section
variable {P : Program} {ρ : Env} {w : World} {ty ts el : TypeId} {x : Operand} {len cap b o : Nat}
/-- xs[:h] of a slice that has a place. -/
theorem opv_slice_sl_hi {hi : Operand} {h : Int} (ht : P.underlying ts = some (.slice el)) (hs : ∀ w, (sizeOf el).run P w = .ok 1 w) (hx : evalE ρ x = .slice (some ⟨b, o, none⟩) len cap) (hh : evalE ρ hi = .int .i64 h)
    (hb : 0 ≤ h ∧ h ≤ (cap : Int)) : OpV P (.slice ts x none (some hi) none) ty ρ w (.slice (some ⟨b, o, none⟩) h.toNat cap) := by
  obtain ⟨H, rfl⟩ := Int.eq_ofNat_of_zero_le hb.1
  have h1 : H ≤ cap := by omega
  have e : (⟨b, o, none⟩ : Addr).add 0 = ⟨b, o, none⟩ := by simp [Addr.add]
  simp [OpV, execOp, hx, hh, Instr.sliceAt, Instr.slice, run_und ht, Instr.sliceBounds, Instr.sliceBound, asIntOf, h1, hs, e]
/-- xs[l:] of a slice that has a place. -/
theorem opv_slice_sl_lo {lo : Operand} {l : Int} (ht : P.underlying ts = some (.slice el)) (hs : ∀ w, (sizeOf el).run P w = .ok 1 w) (hx : evalE ρ x = .slice (some ⟨b, o, none⟩) len cap) (hl : evalE ρ lo = .int .i64 l)
    (hb : 0 ≤ l ∧ l ≤ (len : Int) ∧ l < (cap : Int)) : OpV P (.slice ts x (some lo) none none) ty ρ w (.slice (some ⟨b, o + l.toNat, none⟩) (len - l.toNat) (cap - l.toNat)) := by
  obtain ⟨L, rfl⟩ := Int.eq_ofNat_of_zero_le hb.1
  have h1 : L ≤ len := by omega
  have h2 : ¬ cap = L := by omega
  have e : (⟨b, o, none⟩ : Addr).add L = ⟨b, o + L, none⟩ := by
    unfold Addr.add; split
    · simp_all
    · rfl
  simp [OpV, execOp, hx, hl, Instr.sliceAt, Instr.slice, run_und ht, Instr.sliceBounds, Instr.sliceBound, asIntOf, h1, hs, e, h2]
end
/-- A slice whose length is within its room. -/
def CapOk (v : Value) : Prop := ∃ a l c, v = .slice a l c ∧ l ≤ c
section
open Go.ChangeShapes Go.WideShapes Go.ChangeAt Go.RowKit Go.Deep
theorem read_cap {P : Program} {t e : TypeId} {H : Type} {enc : TypeId × Value → H} {w : World} {r : Reach} {b0 base : Nat} {sp : Nat → Bool} {held : Bool} {v : Value} {d : DataW H} {ps : List MemPlace}
    (ht : P.underlying t = some (.slice e)) (hval : Value.okWide P w r b0 t v) (hd : DataW.Trod enc P w base sp held t v d ps) : CapOk v := by
  obtain ⟨a, len, cap, rfl⟩ := okWide_slice ht hval
  obtain ⟨fuel, hf⟩ := hd
  refine ⟨a, len, cap, rfl, ?_⟩
  rcases open_slice ht hf with ⟨h1, _⟩ | ⟨a', len', cap', m, n, D, Pl, h1, hb, hl, hm, hmm, _, hx⟩
  · simp [Value.cells] at h1; omega
  · simp [Value.cells] at h1; omega
end
theorem ESl.take {α : Type} {E : World → Value → α → Prop} {w : World} {b o len cap cap' : Nat} {xs : List α} (h : ESl E w (.slice (some ⟨b, o, none⟩) len cap) xs) (k : Nat) (hk : k ≤ len) :
    ESl E w (.slice (some ⟨b, o, none⟩) k cap') (xs.take k) := by
  obtain ⟨a, c, e, hm, hc⟩ := h
  obtain ⟨rfl, rfl, rfl⟩ : some (⟨b, o, none⟩ : Addr) = a ∧ len = xs.length ∧ cap = c := by simpa using e
  refine ⟨_, _, by rw [List.length_take, Nat.min_eq_left hk], by simp; omega, ?_⟩
  rcases hc with rfl | ⟨b', o', e, hc⟩
  · left; simp
  · right
    cases e
    refine ⟨b, o, rfl, fun i hi => ?_⟩
    obtain ⟨u, h1, h2⟩ := hc i (by simp at hi; omega)
    exact ⟨u, h1, by simpa using h2⟩
/-- A table of short texts. -/
def Texts (m : Nat) : List Value → Prop
  | [] => True
  | v :: l => (∃ s : List UInt8, v = str s ∧ m ≤ s.length ∧ s.length ≤ 8) ∧ Texts m l
theorem Texts.at {m : Nat} : ∀ {cs : List Value} {i : Nat}, Texts m cs → i < cs.length → ∃ s : List UInt8, cs[i]? = some (str s) ∧ m ≤ s.length ∧ s.length ≤ 8
  | v :: l, 0, h, _ => by obtain ⟨⟨s, rfl, hs⟩, _⟩ := h; exact ⟨s, rfl, hs⟩
  | v :: l, i + 1, h, hi => by
    obtain ⟨s, h1, h2⟩ := Texts.at h.2 (by simpa using hi)
    exact ⟨s, by simpa using h1, h2⟩
section
variable {P : Program} {n : Nat} {N : Env → World → Prop} {ρ : Env} {w w0 : World} {all : Array Oper} {rest : List Oper}
  {d : Nat} {ty tl : TypeId} {pos : String} {after : Array Edge} {g : Option (Nat × Bool)} {x : Operand} {b i : Nat} {cs : List Value}
theorem Wo_tbl (m : Nat) (hta : ∀ w, (isAgg tl).run P w = .ok false w) (hw : wantedE all ⟨some d, .load tl x, ty, pos, after, g⟩ ρ = true) (hx : evalE ρ x = .pointer (some ⟨b, i, none⟩))
    (hB : Blk w b cs) (hT : Texts m cs) (hi : i < cs.length) (hk : ∀ s : List UInt8, m ≤ s.length ∧ s.length ≤ 8 → Wops P n all rest N (upd ρ d (str s)) w) :
    Wops P n all (⟨some d, .load tl x, ty, pos, after, g⟩ :: rest) N ρ w := by
  obtain ⟨s, h1, h2⟩ := hT.at hi
  exact Wo hw (opv_load hta hx (hB.cell h1)) (hk s h2)
end
/-! ### The reader -/
section
variable {w w' w0 : World} {br b lo m m' : Nat} {cs : List Value}
/-- The draws' reader stands in block br: its bytes are older than w0, and it has been asked m times at the most. -/
def Rdr (w0 w : World) (br m : Nat) : Prop := Ext w0 w ∧ w0.heap.size ≤ br ∧ br < w.heap.size ∧ ∃ vb bs p, Bytes w0 vb bs ∧ bs.length ≤ 2000 ∧ Blk w br [vb, .int .i64 (p : Nat)] ∧ p ≤ m
theorem Rdr.le (h : Rdr w0 w br m) (hm : m ≤ m') : Rdr w0 w br m' := by
  obtain ⟨h1, h2, h3, vb, bs, p, h4, h5, h6, h7⟩ := h
  exact ⟨h1, h2, h3, vb, bs, p, h4, h5, h6, by omega⟩
theorem Rdr.cast (h : Rdr w0 w br m) (hm : m = m') : Rdr w0 w br m' := hm ▸ h
theorem Rdr.lt (h : Rdr w0 w br m) : br < w.heap.size := h.2.2.1
theorem Rdr.ge (h : Rdr w0 w br m) : w0.heap.size ≤ br := h.2.1
theorem Rdr.old (h : Rdr w0 w br m) : Ext w0 w := h.1
theorem Rdr.ext (h : Rdr w0 w br m) (e : Ext w w') : Rdr w0 w' br m := by
  obtain ⟨h1, h2, h3, vb, bs, p, h4, h5, h6, h7⟩ := h
  exact ⟨h1.trans e, h2, Nat.lt_of_lt_of_le h3 e.size, vb, bs, p, h4, h5, h6.ext e, h7⟩
/-- a store elsewhere -/
theorem Rdr.wrote (h : Rdr w0 w br m) (e : Ext w0 w') (k : w'.heap[br]? = w.heap[br]?) (hs : w'.heap.size = w.heap.size) : Rdr w0 w' br m := by
  obtain ⟨h1, h2, h3, vb, bs, p, h4, h5, h6, h7⟩ := h
  exact ⟨e, h2, by rw [hs]; exact h3, vb, bs, p, h4, h5, h6.of_heap k, h7⟩
theorem Blk.grown {row : Option Nat} (h : Blk w b cs) (g : w.grownBy w' row) (hne : some b ≠ row) : Blk w' b cs := h.of_heap (g.block b h.lt hne)
theorem grownBy_refl (w : World) (row : Option Nat) : w.grownBy w row := ⟨rfl, rfl, rfl, Nat.le_refl _, fun _ _ _ => rfl⟩
theorem grownBy_trans {w1 w2 w3 : World} {row : Option Nat} (h : w1.grownBy w2 row) (k : w2.grownBy w3 row) : w1.grownBy w3 row :=
  ⟨k.os.trans h.os, k.tape.trans h.tape, k.output.trans h.output, Nat.le_trans h.size k.size, fun i hi hr => (k.block i (Nat.lt_of_lt_of_le hi h.size) hr).trans (h.block i hi hr)⟩
theorem Ext.grownBy (e : Ext w w') (row : Option Nat) : w.grownBy w' row := ⟨e.os, e.tape, e.output, e.size, fun i hi _ => e.block i hi⟩
theorem grownBy_ext {w1 : World} {row : Option Nat} (h : w1.grownBy w row) (e : Ext w w') : w1.grownBy w' row := grownBy_trans h (e.grownBy row)
theorem Keep.ofGrown (g : w.grownBy w' (some br)) (h : br < lo) : Keep lo w w' := fun k h1 h2 => g.block k h2 (by simp; omega)
theorem Above.grown {α : Type} {E : World → Value → α → Prop} {v : Value} {x : α} (h : Above lo E w v x) (g : w.grownBy w' (some br)) (hl : br < lo) : Above lo E w' v x := h.keep (Keep.ofGrown g hl) g.size
theorem grownBy_wrote {w1 : World} {row : Option Nat} (h : w1.grownBy w row) (e0 : Ext w0 w) (e : Ext w0 w') (K : ∀ k, k ≠ b → w'.heap[k]? = w.heap[k]?) (hz : w'.heap.size = w.heap.size) (hb : w1.heap.size ≤ b ∨ row = some b) : w1.grownBy w' row :=
  ⟨by rw [e.os, ← e0.os, h.os], by rw [e.tape, ← e0.tape, h.tape], by rw [e.output, ← e0.output, h.output], by rw [hz]; exact h.size, fun k hk hr => by
    have hkb : k ≠ b := by
      rintro rfl
      rcases hb with hb | hb
      · omega
      · exact hr hb.symm
    rw [K k hkb]; exact h.block k hk hr⟩
theorem Ext.grownAt (h : Ext w0 w) (g : w.grownBy w' (some br)) (hb : w0.heap.size ≤ br) : Ext w0 w' := h.grown g (by rintro k e; cases e; exact hb)

/-- What a draw leaves. -/
def RetD {β : Type} (w0 w : World) (br m : Nat) (val : β → Value) (p : β → World → Prop) : Value → World → Prop := fun v w' => ∃ y, v = val y ∧ w.grownBy w' (some br) ∧ Rdr w0 w' br m ∧ p y w'
end
section
variable {P : Program} {n : Nat} {N : Env → World → Prop} {ρ : Env} {w w0 : World} {all : Array Oper} {rest : List Oper} {M : Env → Prop}
  {d d2 : Nat} {ty ty2 t el tl : TypeId} {pos pos2 : String} {after after2 : Array Edge} {g g2 : Option (Nat × Bool)} {x y : Operand} {k : Nat} {xs : List UInt8}
theorem Wo_getB_z (ht : P.underlying t = some (.slice el)) (hs : ∀ w, (sizeOf el).run P w = .ok 1 w) (hta : ∀ w, (isAgg tl).run P w = .ok false w)
    (hw : wantedE all ⟨some d, .indexAddr t x y, ty, pos, after, g⟩ ρ = true)
    (hw2 : ∀ v, wantedE all ⟨some d2, .load tl (.tmp d), ty2, pos2, after2, g2⟩ (upd ρ d v) = true)
    {v : Value} (hx : evalE ρ x = v) (hR : Bytes w0 v xs) (hE : Ext w0 w) {z : Int} (hy : evalE ρ y = .int .i64 z) (hk : 0 ≤ z ∧ z.toNat < xs.length)
    (hk' : ∀ ad (u : Nat), u = xs[z.toNat].toNat → u < 256 → Wops P n all rest N (upd (upd ρ d (.pointer (some ad))) d2 (.int .u8 (u : Int))) w) :
    Wops P n all (⟨some d, .indexAddr t x y, ty, pos, after, g⟩ :: ⟨some d2, .load tl (.tmp d), ty2, pos2, after2, g2⟩ :: rest) N ρ w :=
  Wo_get_z ht hs hta hw hw2 hx hR hE hy hk (fun ad u hu => by obtain rfl := hu; exact hk' ad _ rfl (UInt8.toNat_lt _))
theorem Wq_getB_z (ht : P.underlying t = some (.slice el)) (hs : ∀ w, (sizeOf el).run P w = .ok 1 w) (hta : ∀ w, (isAgg tl).run P w = .ok false w)
    (hw : wantedE all ⟨some d, .indexAddr t x y, ty, pos, after, g⟩ ρ = true)
    (hw2 : ∀ v, wantedE all ⟨some d2, .load tl (.tmp d), ty2, pos2, after2, g2⟩ (upd ρ d v) = true)
    {v : Value} (hx : evalE ρ x = v) (hR : Bytes w0 v xs) (hE : Ext w0 w) {z : Int} (hy : evalE ρ y = .int .i64 z) (hk : 0 ≤ z ∧ z.toNat < xs.length)
    (hk' : ∀ ad (u : Nat), u = xs[z.toNat].toNat → u < 256 → Wq P n all w rest M (upd (upd ρ d (.pointer (some ad))) d2 (.int .u8 (u : Int)))) :
    Wq P n all w (⟨some d, .indexAddr t x y, ty, pos, after, g⟩ :: ⟨some d2, .load tl (.tmp d), ty2, pos2, after2, g2⟩ :: rest) M ρ :=
  Wq_get_z ht hs hta hw hw2 hx hR hE hy hk (fun ad u hu => by obtain rfl := hu; exact hk' ad _ rfl (UInt8.toNat_lt _))
end
attribute [irreducible] Wh
end Go.Hs
