/- Lemmas for FnReadJournal. -/
import Derived.Test.YtbgpppaljpngmaaGreatDoorMFnReadJournal4
set_option linter.unusedVariables false
set_option linter.unusedSimpArgs false
namespace Go.Hs
def wInto : List UInt8 := [105, 110, 116, 111]
def wAdd : List UInt8 := [97, 100, 100]
def wDrop : List UInt8 := [100, 114, 111, 112]
def cand (s : List UInt8) : Option Deed :=
  if s = sSingle then some ⟨0, [], 0⟩
  else if s = sBack then some ⟨4, [], 0⟩
  else if (cutF 32 s).1 = wInto ∧ (cutF 32 s).2.1.length = 1 ∧ 48 ≤ ((cutF 32 s).2.1.getD 0 0).toNat ∧ ((cutF 32 s).2.1.getD 0 0).toNat ≤ 57 then some ⟨3, [], ((cutF 32 s).2.1.getD 0 0).toNat - 48⟩
  else if (cutF 32 s).1 = wAdd ∧ (cutF 32 s).2.2 = true then some ⟨1, (cutF 32 s).2.1, 0⟩
  else if (cutF 32 s).1 = wDrop ∧ (cutF 32 s).2.2 = true then some ⟨2, (cutF 32 s).2.1, 0⟩
  else none
theorem cand_told {a : Deed} (h : Told a) : cand (dtV a) = some a := by
  cases h with
  | single => rw [Qt]; rfl
  | back => rw [Sj]; rfl
  | into d h =>
    rw [Ra h]
    have e : cutF 32 (sInto ++ [dig d]) = (wInto, [dig d], true) := cutF_at (a := wInto) (r := [dig d]) Kc
    have h1 : sInto ++ [dig d] ≠ sSingle := by intro h; injection h with h1 h2; revert h1; decide
    have h2 : sInto ++ [dig d] ≠ sBack := by intro h; injection h with h1 h2; revert h1; decide
    have ed : (dig d).toNat = 48 + d := Qa Ka
    rw [cand, if_neg h1, if_neg h2, e]
    simp only [List.length_cons, List.length_nil, List.getD_cons_zero, ed]
    rw [if_pos ⟨by trivial, by trivial, Ka, Ka⟩]
    congr 2; omega
  | add p h =>
    rw [Ro h]
    have e : cutF 32 (sAdd ++ txt p) = (wAdd, txt p, true) := cutF_at (a := wAdd) (r := txt p) Kc
    have h1 : sAdd ++ txt p ≠ sSingle := by intro h; injection h with h1 h2; revert h1; decide
    have h2 : sAdd ++ txt p ≠ sBack := by intro h; injection h with h1 h2; revert h1; decide
    rw [cand, if_neg h1, if_neg h2, e]
    simp only
    rw [if_neg (fun h => by have := h.1; revert this; decide), if_pos ⟨by trivial, by trivial⟩]
  | drop p h =>
    rw [Qr h]
    have e : cutF 32 (sDrop ++ txt p) = (wDrop, txt p, true) := cutF_at (a := wDrop) (r := txt p) Kc
    have h1 : sDrop ++ txt p ≠ sSingle := by intro h; injection h with h1 h2; revert h1; decide
    have h2 : sDrop ++ txt p ≠ sBack := by intro h; injection h with h1 h2; revert h1; decide
    rw [cand, if_neg h1, if_neg h2, e]
    simp only
    rw [if_neg (fun h => by have := h.1; revert this; decide), if_neg (fun h => by have := h.1; revert this; decide), if_pos ⟨by trivial, by trivial⟩]
theorem rdD_cand (s : List UInt8) : rdD s = match cand s with | some a => if dtV a = s then some a else none | none => none := by
  cases hr : rdD s with
  | some a =>
    have ht := rdD_told hr
    have h1 := (Sh hr).1
    have := cand_told ht
    rw [h1] at this
    rw [this]
    simp only
    rw [if_pos h1]
  | none =>
    cases hc : cand s with
    | none => rfl
    | some a =>
      simp only
      by_cases h : dtV a = s
      · by_cases hs : s = []
        · subst hs; revert hc; unfold cand; intro hc; simp [cutF, sSingle, sBack, wInto, wAdd, wDrop] at hc
        · rw [rdD_eq h hs] at hr; cases hr
      · rw [if_neg h]
end Go.Hs
set_option linter.unusedVariables false
set_option linter.unusedSimpArgs false
namespace Go.Hs
open Go.RowKit (Below)
def dcs (l : List Deed) : List Value := l.flatMap fun a => [.int .i64 a.kind, str a.text, .int .i64 a.node]
theorem Sd (l : List Deed) : (dcs l).length = l.length * 3 := by
  induction l with
  | nil => rfl
  | cons a l ih => simp only [dcs, List.flatMap_cons, List.length_append, List.length_cons, List.length_nil] at ih ⊢; omega
theorem dcs_app (l m : List Deed) : dcs (l ++ m) = dcs l ++ dcs m := by simp [dcs]
theorem dcs_at : ∀ (l : List Deed) (i : Nat) (h : i < l.length), (dcs l)[i * 3]? = some (.int .i64 l[i].kind) ∧ (dcs l)[i * 3 + 1]? = some (str l[i].text) ∧ (dcs l)[i * 3 + 2]? = some (.int .i64 l[i].node)
  | a :: l, 0, _ => ⟨rfl, rfl, rfl⟩
  | a :: l, i + 1, h => by
    have := dcs_at l i (by simpa using h)
    simp only [List.getElem_cons_succ]
    have e : dcs (a :: l) = [.int .i64 a.kind, str a.text, .int .i64 a.node] ++ dcs l := rfl
    have e1 : (i + 1) * 3 = i * 3 + 3 := Ka
    rw [e, e1]
    refine ⟨?_, ?_, ?_⟩
    · rw [List.getElem?_append_right Ki]; simpa using this.1
    · rw [List.getElem?_append_right Ki]; simpa using this.2.1
    · rw [List.getElem?_append_right Ki]; simpa using this.2.2
theorem dcs_one {l : List Deed} {u : Value} (h : u ∈ dcs l) : isCell u = true := by
  obtain ⟨a, _, h⟩ := List.mem_flatMap.1 h
  simp only [List.mem_cons, List.not_mem_nil, or_false] at h
  rcases h with rfl | rfl | rfl <;> rfl
def OD (e : TypeId) (lo : Nat) (w : World) (v : Value) (l : List Deed) : Prop := w.ownsRow lo e 3 v l.length (dcs l) ∧ ∀ a ∈ l, a.text.length ≤ 9223372036854775807
section
variable {e : TypeId} {lo : Nat} {w w' w0 : World} {v : Value} {l m : List Deed}
theorem OD.ext (h : OD e lo w v l) (k : Ext w w') : OD e lo w' v l :=
  ⟨h.1.kept (row := none) ⟨k.os, k.tape, k.output, k.size, fun i hi _ => k.block i hi⟩ (by cases hv : v.ownBlock <;> simp), h.2⟩
instance : Mono (OD e lo) := ⟨fun k h => h.ext k⟩
theorem OD.lt (h : OD e lo w v l) {k : Nat} (hk : v.ownBlock = some k) : lo ≤ k ∧ k < w.heap.size := h.1.lt k hk
theorem OD.read (h : OD e lo w v l) : ESD w v l := by
  have hA := h.1.2
  rcases hA with ⟨rfl, h0⟩ | ⟨g, cap, cur, rfl, hb, hg, hnc, hcm, hcs, ht⟩
  · have : l = [] := List.eq_nil_of_length_eq_zero h0
    subst this
    exact ⟨none, 0, rfl, Ki, .inl rfl⟩
  · refine ⟨_, _, rfl, by unfold maxLen at hcm; omega, .inr ⟨g, 0, rfl, fun i hi => ?_⟩⟩
    obtain ⟨h1, h2, h3⟩ := dcs_at l i hi
    have c0 := h.1.cellAt (i * 3) Ka
    have c1 := h.1.cellAt (i * 3 + 1) Ka
    have c2 := h.1.cellAt (i * 3 + 2) Ka
    rw [Nat.zero_add]
    exact ⟨c0.trans h1, c1.trans h2, c2.trans h3, h.2 _ (List.getElem_mem hi)⟩
theorem OD.blk {b n : Nat} (hb : w.heap[b]? = some (.cells (dcs l).toArray e (0, 0))) (hl : lo ≤ b) (hn : l.length = n) (hm : n ≤ maxLen) (hx : ∀ a ∈ l, a.text.length ≤ 9223372036854775807) : OD e lo w (.slice (some ⟨b, 0, none⟩) n n) l := by
  subst hn
  exact ⟨⟨Sd l, .inr ⟨b, l.length, (dcs l).toArray, rfl, hl, hb, Nat.le_refl _, hm, by simp [Sd], by rw [List.take_of_length_le (by simp [Sd])]⟩⟩, hx⟩
end
structure ElD (P : Program) (t e : TypeId) : Prop where
  und : P.underlying t = some (.slice e)
  info : ∃ i, P.info? e = some i ∧ i.zero = some (.agg #[.int .i64 0, str [], .int .i64 0]) ∧ i.size = 3 ∧ i.bytes ≤ 64
  size : ∀ w, (sizeOf e).run P w = .ok 3 w
  zero : ∀ w, (zeroValue e).run P w = .ok (.agg #[.int .i64 0, str [], .int .i64 0]) w
theorem ElD.of {P : Program} {t e : TypeId} (hu : P.underlying t = some (.slice e)) (h : (P.info? e).map (fun i => (i.zero, i.size, Nat.ble i.bytes 64)) = some (some (.agg #[.int .i64 0, str [], .int .i64 0]), 3, true))
    (hs : ∀ w, (sizeOf e).run P w = .ok 3 w) (hz : ∀ w, (zeroValue e).run P w = .ok (.agg #[.int .i64 0, str [], .int .i64 0]) w) : ElD P t e := by
  refine ⟨hu, ?_, hs, hz⟩
  cases hi : P.info? e with
  | none => rw [hi] at h; cases h
  | some i =>
    rw [hi] at h
    simp only [Option.map_some, Option.some.injEq, Prod.mk.injEq] at h
    exact ⟨i, rfl, h.1, h.2.1, by simpa using h.2.2⟩
section
variable {P : Program} {n : Nat} {N : Env → World → Prop} {ρ : Env} {w w0 : World} {all : Array Oper} {rest : List Oper} {d : Nat} {ty t el : TypeId} {pos : String} {after : Array Edge} {g : Option (Nat × Bool)} {x y z s : Operand} {v : Value} {l m : List Deed} {lo : Nat} {a1 a2 a3 : Deed}
theorem run_buildD1 (hT : ElD P t el) : (Instr.buildSlice t 1 #[(0, dv a1)]).run P w = .ok (.slice (some ⟨w.heap.size, 0, none⟩) 1 1) (w.alloc (.cells (dcs [a1]).toArray el)) := by
  simp [Instr.buildSlice, Yw hT.und, hT.size, hT.zero, newRow, Instr.fill, dv, Value.cells, dcs, Array.range]
  refine congrArg (fun c => w.alloc (Obj.cells c el)) ?_
  apply Array.ext'
  simp [List.ofFn, Fin.foldr, Fin.foldr.loop]
theorem run_buildD2 (hT : ElD P t el) : (Instr.buildSlice t 2 #[(0, dv a1), (1, dv a2)]).run P w = .ok (.slice (some ⟨w.heap.size, 0, none⟩) 2 2) (w.alloc (.cells (dcs [a1, a2]).toArray el)) := by
  simp [Instr.buildSlice, Yw hT.und, hT.size, hT.zero, newRow, Instr.fill, dv, Value.cells, dcs, Array.range]
  refine congrArg (fun c => w.alloc (Obj.cells c el)) ?_
  apply Array.ext'
  simp [List.ofFn, Fin.foldr, Fin.foldr.loop]
theorem run_buildD3 (hT : ElD P t el) : (Instr.buildSlice t 3 #[(0, dv a1), (1, dv a2), (2, dv a3)]).run P w = .ok (.slice (some ⟨w.heap.size, 0, none⟩) 3 3) (w.alloc (.cells (dcs [a1, a2, a3]).toArray el)) := by
  simp [Instr.buildSlice, Yw hT.und, hT.size, hT.zero, newRow, Instr.fill, dv, Value.cells, dcs, Array.range]
  refine congrArg (fun c => w.alloc (Obj.cells c el)) ?_
  apply Array.ext'
  simp [List.ofFn, Fin.foldr, Fin.foldr.loop]
theorem Th (hw : wantedE all ⟨some d, .buildSlice t 0 #[], ty, pos, after, g⟩ ρ = true) (hT : ElD P t el)
    (hk : ∀ b w1, w.heap.size ≤ b → Ext w w1 → OD el w.heap.size w1 (.slice (some ⟨b, 0, none⟩) 0 0) [] → Wops P n all rest N (upd ρ d (.slice (some ⟨b, 0, none⟩) 0 0)) w1) :
    Wops P n all (⟨some d, .buildSlice t 0 #[], ty, pos, after, g⟩ :: rest) N ρ w := by
  refine Wo_w hw (show OpW P (.buildSlice t 0 #[]) ty ρ w (.slice (some ⟨w.heap.size, 0, none⟩) 0 0) (w.alloc (.cells (dcs []).toArray el)) from ?_) (hk _ _ (Nat.le_refl _) ((Ext.refl w).alloc _) (OD.blk (heap_alloc_new w _) (Nat.le_refl _) rfl (by unfold maxLen; omega) (fun a h => by cases h)))
  simp [OpW, execOp, Instr.buildSlice, Yw hT.und, hT.size, newRow, show Array.range 0 = #[] from rfl, Instr.fill, dcs]
theorem Tn (hw : wantedE all ⟨some d, .buildSlice t 1 #[(0, x)], ty, pos, after, g⟩ ρ = true) (hT : ElD P t el) (hx : evalE ρ x = dv a1) (h1 : a1.text.length ≤ 9223372036854775807)
    (hk : ∀ b w1, w.heap.size ≤ b → Ext w w1 → OD el w.heap.size w1 (.slice (some ⟨b, 0, none⟩) 1 1) [a1] → Wops P n all rest N (upd ρ d (.slice (some ⟨b, 0, none⟩) 1 1)) w1) :
    Wops P n all (⟨some d, .buildSlice t 1 #[(0, x)], ty, pos, after, g⟩ :: rest) N ρ w := by
  refine Wo_w hw (show OpW P (.buildSlice t 1 #[(0, x)]) ty ρ w (.slice (some ⟨w.heap.size, 0, none⟩) 1 1) (w.alloc (.cells (dcs [a1]).toArray el)) from ?_) (hk _ _ (Nat.le_refl _) ((Ext.refl w).alloc _) (OD.blk (heap_alloc_new w _) (Nat.le_refl _) rfl (by unfold maxLen; omega) (by simpa using h1)))
  simp [OpW, execOp, hx, run_buildD1 hT]
theorem Wo_buildD2 (hw : wantedE all ⟨some d, .buildSlice t 2 #[(0, x), (1, y)], ty, pos, after, g⟩ ρ = true) (hT : ElD P t el) (hx : evalE ρ x = dv a1) (hy : evalE ρ y = dv a2) (h1 : a1.text.length ≤ 9223372036854775807) (h2 : a2.text.length ≤ 9223372036854775807)
    (hk : ∀ b w1, w.heap.size ≤ b → Ext w w1 → OD el w.heap.size w1 (.slice (some ⟨b, 0, none⟩) 2 2) [a1, a2] → Wops P n all rest N (upd ρ d (.slice (some ⟨b, 0, none⟩) 2 2)) w1) :
    Wops P n all (⟨some d, .buildSlice t 2 #[(0, x), (1, y)], ty, pos, after, g⟩ :: rest) N ρ w := by
  refine Wo_w hw (show OpW P (.buildSlice t 2 #[(0, x), (1, y)]) ty ρ w (.slice (some ⟨w.heap.size, 0, none⟩) 2 2) (w.alloc (.cells (dcs [a1, a2]).toArray el)) from ?_) (hk _ _ (Nat.le_refl _) ((Ext.refl w).alloc _) (OD.blk (heap_alloc_new w _) (Nat.le_refl _) rfl (by unfold maxLen; omega) (by simpa using ⟨h1, h2⟩)))
  simp [OpW, execOp, hx, hy, run_buildD2 hT]
theorem Ud (hw : wantedE all ⟨some d, .buildSlice t 3 #[(0, x), (1, y), (2, z)], ty, pos, after, g⟩ ρ = true) (hT : ElD P t el) (hx : evalE ρ x = dv a1) (hy : evalE ρ y = dv a2) (hz : evalE ρ z = dv a3) (h1 : a1.text.length ≤ 9223372036854775807) (h2 : a2.text.length ≤ 9223372036854775807) (h3 : a3.text.length ≤ 9223372036854775807)
    (hk : ∀ b w1, w.heap.size ≤ b → Ext w w1 → OD el w.heap.size w1 (.slice (some ⟨b, 0, none⟩) 3 3) [a1, a2, a3] → Wops P n all rest N (upd ρ d (.slice (some ⟨b, 0, none⟩) 3 3)) w1) :
    Wops P n all (⟨some d, .buildSlice t 3 #[(0, x), (1, y), (2, z)], ty, pos, after, g⟩ :: rest) N ρ w := by
  refine Wo_w hw (show OpW P (.buildSlice t 3 #[(0, x), (1, y), (2, z)]) ty ρ w (.slice (some ⟨w.heap.size, 0, none⟩) 3 3) (w.alloc (.cells (dcs [a1, a2, a3]).toArray el)) from ?_) (hk _ _ (Nat.le_refl _) ((Ext.refl w).alloc _) (OD.blk (heap_alloc_new w _) (Nat.le_refl _) rfl (by unfold maxLen; omega) (by simpa using ⟨h1, h2, h3⟩)))
  simp [OpW, execOp, hx, hy, hz, run_buildD3 hT]
theorem Qf {b c k lo2 : Nat} (hw : wantedE all ⟨some d, .call { callee := .builtin .append, args := #[s, x], argTypes := #[t, t] }, ty, pos, after, g⟩ ρ = true) (hT : ElD P t el)
    (hv : evalE ρ s = v) (hx : evalE ρ x = .slice (some ⟨b, 0, none⟩) k c) (h : OD el lo w v l) (hy : OD el lo2 w (.slice (some ⟨b, 0, none⟩) k c) m) (hbig : l.length + m.length ≤ 1099511627776) (hlw : lo ≤ w.heap.size) (h0 : Ext w0 w) (hl0 : w0.heap.size ≤ lo)
    (hk : ∀ v' w', OD el lo w' v' (l ++ m) → Ext w0 w' → w.grownBy w' v.ownBlock → Wops P n all rest N (upd ρ d v') w') :
    Wops P n all (⟨some d, .call { callee := .builtin .append, args := #[s, x], argTypes := #[t, t] }, ty, pos, after, g⟩ :: rest) N ρ w := by
  obtain ⟨i, hi, hz, hs, hby⟩ := hT.info
  have hkl : k = m.length := by
    rcases hy.1.2 with ⟨e, _⟩ | ⟨g', cap, cur, e, _⟩
    · cases e
    · injection e
  subst hkl
  have hmul : (l.length + m.length) * i.bytes ≤ 140737488355328 := by have := Nat.mul_le_mul hbig hby; omega
  have hcell : ∀ j u, (dcs m)[j]? = some u → w.cell? ((⟨b, 0, none⟩ : Addr).add j) = some u := hy.1.cells (g := b) rfl
  obtain ⟨v', w', hr, h2, h3, h4⟩ := run_append_own (P := P) w lo t ty el i _ 3 i.bytes hT.und hi hz hs rfl rfl Ka v l.length (dcs l) h.1 ⟨b, 0, none⟩ m.length c (dcs m) (Sd m) hcell (fun u hu => Rm (dcs_one hu)) (by unfold maxLen; omega) hmul hlw
  have hOD : OD el lo w' v' (l ++ m) := ⟨by rw [List.length_append, dcs_app]; exact h2, fun a ha => (List.mem_append.1 ha).elim (h.2 a) (hy.2 a)⟩
  refine Qu (v := v') (w' := w') hw ?_ (hk v' w' hOD ((Only.grownBy (fp := v.ownBlock.toList) h3 (fun k hk => by simp [hk])).ext h0 (fun k hk => ?_)) h3)
  · simp only [execOp, resolve, invoke, builtin, Sem.run_bind, Sem.run_pure, Result.andThen_ok, List.map_toArray, List.map_cons, List.map_nil, hv, hx, hr]
  · have : v.ownBlock = some k := by simpa using hk
    have := (h.lt this).1
    omega
end
end Go.Hs
namespace Go.Proofs.YtbgpppaljpngmaaGreatDoor
open Go.Hs
set_option maxRecDepth 10000
set_option maxHeartbeats 4000000
set_option linter.unusedVariables false
set_option linter.unusedSimpArgs false
theorem leaf_some {O : Option Deed} {u : Value} {k n : Int} {l : List UInt8} (h : O = some ⟨k, l, n⟩) (hu : u = .bool true) : Value.tuple #[.agg #[.int .i64 k, str l, .int .i64 n], u] = .tuple #[dv (O.getD ⟨0, [], 0⟩), .bool O.isSome] := by
  subst h; subst hu; rfl
theorem leaf_none {O : Option Deed} {u : Value} (h : O = none) (hu : u = .bool false) : Value.tuple #[.agg #[.int .i64 0, str [], .int .i64 0], u] = .tuple #[dv (O.getD ⟨0, [], 0⟩), .bool O.isSome] := by
  subst h; subst hu; rfl
theorem Te (w : World) (s : List UInt8) (hM : EMx gMx w (.bool true) ()) (hs : s.length ≤ 1048576) :
    Does Tryz.prog 103 [str s] w (Ret w (.tuple #[dv ((rdD s).getD ⟨0, [], 0⟩), .bool (rdD s).isSome])) := by
  obtain ⟨wd, hW⟩ : ∃ wd, wd = (cutF 32 s).1 := ⟨_, rfl⟩
  obtain ⟨R, hR⟩ : ∃ R, R = (cutF 32 s).2.1 := ⟨_, rfl⟩
  obtain ⟨H, hH⟩ : ∃ H, H = (cutF 32 s).2.2 := ⟨_, rfl⟩
  have hRl : R.length ≤ 1048576 := by rw [hR]; have := (cutF_len 32 s).2; omega
  have k1 : ∀ w, EMx gMx w (.bool true) () → Does Tryz.prog 102 [str s, str [32]] w (Ret w (.tuple #[str wd, str R, .bool H])) := fun w hM => by
    subst hW hR hH; exact Cut_ok w s 32 hM hs
  have hr8 : (R.getD 0 0).toNat < 256 := UInt8.toNat_lt _
  have hc : cand s = (if s = [115, 105, 110, 103, 108, 101] then some ⟨0, [], 0⟩
    else if s = [98, 97, 99, 107] then some ⟨4, [], 0⟩
    else if wd = [105, 110, 116, 111] ∧ (R.length : Int) = 1 ∧ (48 : Int) ≤ ((R.getD 0 0).toNat : Int) ∧ ((R.getD 0 0).toNat : Int) ≤ 57 then some ⟨3, [], ((R.getD 0 0).toNat : Int) - 48⟩
    else if wd = [97, 100, 100] ∧ H = true then some ⟨1, R, 0⟩
    else if wd = [100, 114, 111, 112] ∧ H = true then some ⟨2, R, 0⟩ else none) := by
    subst hW hR hH
    have e : ((cutF 32 s).2.1.length = 1 ∧ 48 ≤ ((cutF 32 s).2.1.getD 0 0).toNat ∧ ((cutF 32 s).2.1.getD 0 0).toNat ≤ 57) ↔ (((cutF 32 s).2.1.length : Int) = 1 ∧ (48 : Int) ≤ (((cutF 32 s).2.1.getD 0 0).toNat : Int) ∧ (((cutF 32 s).2.1.getD 0 0).toNat : Int) ≤ 57) := Ka
    refine ite_congr rfl (fun _ => rfl) fun _ => ite_congr rfl (fun _ => rfl) fun _ => ite_congr (propext (and_congr Iff.rfl e)) (fun _ => rfl) fun _ => rfl
  have hr := rdD_cand s
  rw [hc] at hr
  obtain ⟨O, hO⟩ : ∃ O, O = rdD s := ⟨_, rfl⟩
  rw [← hO] at hr ⊢
  refine fn_of_Wc3t Tryz.func103 rfl Tryz.results103 Tryz.ntmps103 rfl Jb Kr ?_
  have k2 : ∀ w k n, EMx gMx w (.bool true) () → Does Tryz.prog 104 [.agg #[.int .i64 k, str [], .int .i64 n]] w (Ret w (str (dtV ⟨k, [], n⟩))) := fun w k n hM => Qn w k n [] hM Ki
  have k3 : ∀ w k n, EMx gMx w (.bool true) () → Does Tryz.prog 104 [.agg #[.int .i64 k, str R, .int .i64 n]] w (Ret w (str (dtV ⟨k, R, n⟩))) := fun w k n hM => Qn w k n R hM hRl
  focus
    refine Gs<|Yi rfl Zz ?_; rintro b1 w1 hb1 E1 hB1; have hlb1 := hB1.lt; have hs1 := E1.size; refine Zc rfl<|Gm<|Gt<|Zl<|Yd rfl<|Gu rfl (Vb (a := .string _) (b := .string _) Tryz.call102 rfl rfl) (k1 _ ((Mono.mono E1 hM))) ?_; rintro _ w2 ⟨rfl, E2⟩; have hs2 := E2.size; refine Xf rfl<|WsxT rfl<|WsxT rfl<|Yz rfl<|Yo rfl<|Yo rfl<|Zc rfl<|Gm<|Gs<|Wo rfl (Zn (ps := []) (cs := [_, _, _]) Zz rfl rfl)<|Yi rfl Zz ?_; rintro b2 w3 hb2 E3 hB2; have hlb2 := hB2.lt; have hs3 := E3.size; refine Yx Kr hB2 rfl ((E1.trans E2).trans E3) ?_; rintro w4 E4 hB2 K1 hz1; have E5 := (E2.trans E3).wroteAt exq E4 K1 hz1 Ka; have szE5 := E5.size; have E6 := E3.wroteAt exq E4 K1 hz1 Ka
    have hB1 := (hB1.ext exq).of_heap (K1 _ Ka); refine Gm<|Gt<|Gy<|Gs<|Yd rfl<|Wo rfl (Vo rfl rfl)<|Zc rfl<|Gm<|Gq rfl (fun h1 => ?_) (fun h1 => ?_); refine Zl<|Zg Kp Kl rfl<|Vz (v := .int _ _) rfl Kl rfl rfl rfl hB2 Kc Ka E4 ?_; rintro w5 E7 hB2 K2 hz2; simp only [List.set] at hB2; have hB1 := hB1.of_heap (K2 _ Ka); refine Gm<|Gt<|Gs<|Xq Jb Kr hB2 rfl<|Gu rfl (Vh (a := .agg _) Jq rfl) (k2 _ _ _ ((Mono.mono E7 hM))) ?_; rintro _ w6 ⟨rfl, E10⟩; refine Yd rfl<|Wo rfl (Vy rfl rfl)<|Gm<|Zx rfl (fun h2 => ?_) (fun h2 => ?_); refine Gt<|Zl<|Wo rfl (Zn (ps := []) (cs := [_, _, _]) Zz rfl rfl) ?_
    refine Yx Kr (hB1.ext E10) rfl (E7.trans E10) ?_; rintro w7 E11 hB1 K3 hz3; refine Zc rfl<|Gm<|Zd ?_; rotate_left; refine Gx<|Gs<|Xq Jb Kr (hB2.ext E10) rfl<|Yx Kr (hB1.ext E10) rfl (E7.trans E10) ?_; rintro w7 E11 hB1 K3 hz3; refine Zc rfl<|Gm<|Zd ?_; rotate_left; refine Gs<|Yd rfl<|Wo rfl (Vo rfl rfl)<|Zc rfl<|Gm<|Gq rfl (fun h2 => ?_) (fun h2 => ?_); refine Zl<|Zg Kp Kl rfl<|Vz (v := .int _ _) rfl Kl rfl rfl rfl hB2 Kc Ka E4 ?_; rintro w5 E7 hB2 K2 hz2; simp only [List.set] at hB2; have hB1 := hB1.of_heap (K2 _ Ka); refine Gm<|Gt<|Gs<|Xq Jb Kr hB2 rfl<|Gu rfl (Vh (a := .agg _) Jq rfl) (k2 _ _ _ ((Mono.mono E7 hM))) ?_
    rintro _ w6 ⟨rfl, E10⟩; refine Yd rfl<|Wo rfl (Vy rfl rfl)<|Gm<|Zx rfl (fun h3 => ?_) (fun h3 => ?_); refine Gt<|Zl<|Wo rfl (Zn (ps := []) (cs := [_, _, _]) Zz rfl rfl)<|Yx Kr (hB1.ext E10) rfl (E7.trans E10) ?_; rintro w7 E11 hB1 K3 hz3; refine Zc rfl<|Gm<|Zd ?_; rotate_left; refine Gx<|Gs<|Xq Jb Kr (hB2.ext E10) rfl<|Yx Kr (hB1.ext E10) rfl (E7.trans E10) ?_; rintro w7 E11 hB1 K3 hz3; refine Zc rfl<|Gm<|Zd ?_; rotate_left; refine Gs<|Yd rfl<|Wo rfl (Vo rfl rfl)<|Zp rfl (fun h3 => ?_) (fun h3 => ?_); refine Yd rfl<|Wo rfl (Yh Je rfl)<|Zs rfl<|Vw rfl<|Zp rfl (fun h4 => ?_) (fun h4 => ?_)
    refine Yd rfl<|Wo rfl (Yl (k := 0) Je rfl rfl Ka) ?_; refine Wsgeq rfl<|Vw rfl<|Zp rfl (fun h5 => ?_) (fun h5 => ?_); refine Yd rfl<|Wo rfl (Yl (k := 0) Je rfl rfl Ka) ?_; refine Wsleq rfl<|Vw rfl<|Zc rfl<|Gm<|Gq rfl (fun h6 => ?_) (fun h6 => ?_); refine Gt<|Zl<|Zg Kp Kl rfl<|Vz (v := .int _ _) rfl Kl rfl rfl rfl hB2 Kc Ka E4 ?_; rintro w5 E7 hB2 K2 hz2; simp only [List.set] at hB2; have hB1 := hB1.of_heap (K2 _ Ka); refine Gm<|Zl<|Yd rfl<|Wo rfl (Yl (k := 0) Je rfl rfl Ka) ?_; refine Wo rfl (opv_sub_u8 rfl rfl Ka) ?_
    refine Wo rfl (Xz Jt Jy rfl Ka) ?_; refine Zg Kp Kl rfl<|Vz (v := .int _ _) rfl Kl rfl rfl rfl hB2 Kc Ka E7 ?_; rintro w6 E10 hB2 K3 hz3; simp only [List.set] at hB2; have hB1 := hB1.of_heap (K3 _ Ka); refine Gm<|Gt<|Gs<|Xq Jb Kr hB2 rfl<|Gu rfl (Vh (a := .agg _) Jq rfl) (k2 _ _ _ ((Mono.mono E10 hM))) ?_; rintro _ w7 ⟨rfl, E13⟩; refine Yd rfl<|Wo rfl (Vy rfl rfl)<|Gm<|Zx rfl (fun h7 => ?_) (fun h7 => ?_); refine Gs<|Wo rfl (Zn (ps := []) (cs := [_, _, _]) Zz rfl rfl)<|Yx Kr (hB1.ext E13) rfl (E10.trans E13) ?_; rintro w8 E14 hB1 K4 hz4; refine Zc rfl<|Gm<|Zd ?_; rotate_left; refine Gx<|Gs ?_
    refine Xq Jb Kr (hB2.ext E13) rfl<|Yx Kr (hB1.ext E13) rfl (E10.trans E13) ?_; rintro w8 E14 hB1 K4 hz4; refine Zc rfl<|Gm<|Zd ?_; rotate_left; refine Gs<|Yd rfl<|Wo rfl (Vo rfl rfl)<|Zp rfl (fun h7 => ?_) (fun h7 => ?_); refine Vq rfl<|Vw rfl<|Zc rfl<|Gm<|Vv rfl (fun h8 => ?_) (fun h8 => ?_); refine Gs<|Zg Kp Kl rfl<|Vz (v := .int _ _) rfl Kl rfl rfl rfl hB2 Kc Ka E4 ?_; rintro w5 E7 hB2 K2 hz2; simp only [List.set] at hB2; have hB1 := hB1.of_heap (K2 _ Ka); refine Gm<|Zl<|Yd rfl<|Zg Kp Ku rfl<|Vz (v := .string _) rfl Ku rfl rfl rfl hB2 Kc Ka E7 ?_; rintro w6 E10 hB2 K3 hz3
    simp only [List.set] at hB2; have hB1 := hB1.of_heap (K3 _ Ka); refine Gm<|Gt<|Gs<|Xq Jb Kr hB2 rfl<|Gu rfl (Vh (a := .agg _) Jq rfl) (k3 _ _ _ ((Mono.mono E10 hM))) ?_; rintro _ w7 ⟨rfl, E13⟩; refine Yd rfl<|Wo rfl (Vy rfl rfl)<|Gm<|Zx rfl (fun h9 => ?_) (fun h9 => ?_); refine Gs<|Wo rfl (Zn (ps := []) (cs := [_, _, _]) Zz rfl rfl)<|Yx Kr (hB1.ext E13) rfl (E10.trans E13) ?_; rintro w8 E14 hB1 K4 hz4; refine Zc rfl<|Gm<|Zd ?_; rotate_left; refine Gx<|Gs<|Xq Jb Kr (hB2.ext E13) rfl<|Yx Kr (hB1.ext E13) rfl (E10.trans E13) ?_; rintro w8 E14 hB1 K4 hz4; refine Zc rfl<|Gm<|Zd ?_; rotate_left; refine Gs ?_
    refine Yd rfl<|Wo rfl (Vo rfl rfl)<|Zp rfl (fun h9 => ?_) (fun h9 => ?_); refine Vq rfl<|Vw rfl<|Zc rfl<|Gm<|Vv rfl (fun h10 => ?_) (fun h10 => ?_); refine Gs<|Zg Kp Kl rfl<|Vz (v := .int _ _) rfl Kl rfl rfl rfl hB2 Kc Ka E4 ?_; rintro w5 E7 hB2 K2 hz2; simp only [List.set] at hB2; have hB1 := hB1.of_heap (K2 _ Ka); refine Gm<|Zl<|Yd rfl<|Zg Kp Ku rfl<|Vz (v := .string _) rfl Ku rfl rfl rfl hB2 Kc Ka E7 ?_; rintro w6 E10 hB2 K3 hz3; simp only [List.set] at hB2; have hB1 := hB1.of_heap (K3 _ Ka); refine Gm<|Gt<|Gs ?_
    refine Xq Jb Kr hB2 rfl<|Gu rfl (Vh (a := .agg _) Jq rfl) (k3 _ _ _ ((Mono.mono E10 hM))) ?_; rintro _ w7 ⟨rfl, E13⟩; refine Yd rfl<|Wo rfl (Vy rfl rfl)<|Gm<|Zx rfl (fun h11 => ?_) (fun h11 => ?_); refine Gs<|Wo rfl (Zn (ps := []) (cs := [_, _, _]) Zz rfl rfl)<|Yx Kr (hB1.ext E13) rfl (E10.trans E13) ?_; rintro w8 E14 hB1 K4 hz4; refine Zc rfl<|Gm<|Zd ?_; rotate_left; refine Gx<|Gs<|Xq Jb Kr (hB2.ext E13) rfl<|Yx Kr (hB1.ext E13) rfl (E10.trans E13) ?_; rintro w8 E14 hB1 K4 hz4; refine Zc rfl<|Gm<|Zd ?_; rotate_left; refine Gs<|Wo rfl (Zn (ps := []) (cs := [_, _, _]) Zz rfl rfl)<|Yx Kr hB1 rfl E4 ?_
    rintro w5 E7 hB1 K2 hz2; refine Zc rfl<|Gm<|Zd ?_; rotate_left; refine Gn rfl<|Vc rfl<|Zc rfl<|Gm<|Za rfl ?_; refine Gs<|Wo rfl (Zn (ps := []) (cs := [_, _, _]) Zz rfl rfl)<|Yx Kr hB1 rfl E4 ?_; rintro w5 E7 hB1 K2 hz2; refine Zc rfl<|Gm<|Zd ?_; rotate_left; refine Gn rfl<|Vc rfl<|Zc rfl<|Gm<|Za rfl ?_; refine Gs<|Yd rfl<|Wo rfl (Vo rfl rfl)<|Zp rfl (fun h8 => ?_) (fun h8 => ?_); refine Vq rfl<|Vw rfl<|Zc rfl<|Gm<|Vv rfl (fun h9 => ?_) (fun h9 => ?_); refine Gs<|Zg Kp Kl rfl<|Vz (v := .int _ _) rfl Kl rfl rfl rfl hB2 Kc Ka E4 ?_; rintro w5 E7 hB2 K2 hz2
    simp only [List.set] at hB2; have hB1 := hB1.of_heap (K2 _ Ka); refine Gm<|Zl<|Yd rfl<|Zg Kp Ku rfl<|Vz (v := .string _) rfl Ku rfl rfl rfl hB2 Kc Ka E7 ?_; rintro w6 E10 hB2 K3 hz3; simp only [List.set] at hB2; have hB1 := hB1.of_heap (K3 _ Ka); refine Gm<|Gt<|Gs<|Xq Jb Kr hB2 rfl<|Gu rfl (Vh (a := .agg _) Jq rfl) (k3 _ _ _ ((Mono.mono E10 hM))) ?_; rintro _ w7 ⟨rfl, E13⟩; refine Yd rfl<|Wo rfl (Vy rfl rfl)<|Gm<|Zx rfl (fun h10 => ?_) (fun h10 => ?_); refine Gs<|Wo rfl (Zn (ps := []) (cs := [_, _, _]) Zz rfl rfl)<|Yx Kr (hB1.ext E13) rfl (E10.trans E13) ?_; rintro w8 E14 hB1 K4 hz4; refine Zc rfl<|Gm<|Zd ?_; rotate_left; refine Gx<|Gs ?_
    refine Xq Jb Kr (hB2.ext E13) rfl<|Yx Kr (hB1.ext E13) rfl (E10.trans E13) ?_; rintro w8 E14 hB1 K4 hz4; refine Zc rfl<|Gm<|Zd ?_; rotate_left; refine Gs<|Wo rfl (Zn (ps := []) (cs := [_, _, _]) Zz rfl rfl)<|Yx Kr hB1 rfl E4 ?_; rintro w5 E7 hB1 K2 hz2; refine Zc rfl<|Gm<|Zd ?_; rotate_left; refine Gn rfl<|Vc rfl<|Zc rfl<|Gm<|Za rfl ?_; refine Gs<|Wo rfl (Zn (ps := []) (cs := [_, _, _]) Zz rfl rfl)<|Yx Kr hB1 rfl E4 ?_; rintro w5 E7 hB1 K2 hz2; have hB2 := hB2.of_heap (K2 _ Ka); refine Zc rfl<|Gm<|Zd ?_; rotate_left; refine Gn rfl<|Gn rfl<|Gn rfl<|Vc rfl<|Zc rfl<|Gm<|Za rfl ?_; refine Gs ?_
    refine Yd rfl<|Wo rfl (Vo rfl rfl)<|Zp rfl (fun h6 => ?_) (fun h6 => ?_); refine Vq rfl<|Vw rfl<|Zc rfl<|Gm<|Vv rfl (fun h7 => ?_) (fun h7 => ?_); refine Gs<|Zg Kp Kl rfl<|Vz (v := .int _ _) rfl Kl rfl rfl rfl hB2 Kc Ka E4 ?_; rintro w5 E7 hB2 K2 hz2; simp only [List.set] at hB2; have hB1 := hB1.of_heap (K2 _ Ka); refine Gm<|Zl<|Yd rfl<|Zg Kp Ku rfl<|Vz (v := .string _) rfl Ku rfl rfl rfl hB2 Kc Ka E7 ?_; rintro w6 E10 hB2 K3 hz3; simp only [List.set] at hB2; have hB1 := hB1.of_heap (K3 _ Ka); refine Gm<|Gt<|Gs ?_
    refine Xq Jb Kr hB2 rfl<|Gu rfl (Vh (a := .agg _) Jq rfl) (k3 _ _ _ ((Mono.mono E10 hM))) ?_; rintro _ w7 ⟨rfl, E13⟩; refine Yd rfl<|Wo rfl (Vy rfl rfl)<|Gm<|Zx rfl (fun h8 => ?_) (fun h8 => ?_); refine Gs<|Wo rfl (Zn (ps := []) (cs := [_, _, _]) Zz rfl rfl)<|Yx Kr (hB1.ext E13) rfl (E10.trans E13) ?_; rintro w8 E14 hB1 K4 hz4; refine Zc rfl<|Gm<|Zd ?_; rotate_left; refine Gx<|Gs<|Xq Jb Kr (hB2.ext E13) rfl<|Yx Kr (hB1.ext E13) rfl (E10.trans E13) ?_; rintro w8 E14 hB1 K4 hz4; refine Zc rfl<|Gm<|Zd ?_; rotate_left; refine Gs<|Yd rfl<|Wo rfl (Vo rfl rfl)<|Zp rfl (fun h8 => ?_) (fun h8 => ?_); refine Vq rfl ?_
    refine Vw rfl<|Zc rfl<|Gm<|Vv rfl (fun h9 => ?_) (fun h9 => ?_); refine Gs<|Zg Kp Kl rfl<|Vz (v := .int _ _) rfl Kl rfl rfl rfl hB2 Kc Ka E4 ?_; rintro w5 E7 hB2 K2 hz2; simp only [List.set] at hB2; have hB1 := hB1.of_heap (K2 _ Ka); refine Gm<|Zl<|Yd rfl<|Zg Kp Ku rfl<|Vz (v := .string _) rfl Ku rfl rfl rfl hB2 Kc Ka E7 ?_; rintro w6 E10 hB2 K3 hz3; simp only [List.set] at hB2; have hB1 := hB1.of_heap (K3 _ Ka); refine Gm<|Gt<|Gs<|Xq Jb Kr hB2 rfl<|Gu rfl (Vh (a := .agg _) Jq rfl) (k3 _ _ _ ((Mono.mono E10 hM))) ?_; rintro _ w7 ⟨rfl, E13⟩
    refine Yd rfl<|Wo rfl (Vy rfl rfl)<|Gm<|Zx rfl (fun h10 => ?_) (fun h10 => ?_); refine Gs<|Wo rfl (Zn (ps := []) (cs := [_, _, _]) Zz rfl rfl)<|Yx Kr (hB1.ext E13) rfl (E10.trans E13) ?_; rintro w8 E14 hB1 K4 hz4; refine Zc rfl<|Gm<|Zd ?_; rotate_left; refine Gx<|Gs<|Xq Jb Kr (hB2.ext E13) rfl<|Yx Kr (hB1.ext E13) rfl (E10.trans E13) ?_; rintro w8 E14 hB1 K4 hz4; refine Zc rfl<|Gm<|Zd ?_; rotate_left; refine Gs<|Wo rfl (Zn (ps := []) (cs := [_, _, _]) Zz rfl rfl)<|Yx Kr hB1 rfl E4 ?_; rintro w5 E7 hB1 K2 hz2; refine Zc rfl<|Gm<|Zd ?_; rotate_left; refine Gn rfl<|Vc rfl<|Zc rfl<|Gm<|Za rfl ?_; refine Gs ?_
    refine Wo rfl (Zn (ps := []) (cs := [_, _, _]) Zz rfl rfl)<|Yx Kr hB1 rfl E4 ?_; rintro w5 E7 hB1 K2 hz2; refine Zc rfl<|Gm<|Zd ?_; rotate_left; refine Gn rfl<|Vc rfl<|Zc rfl<|Gm<|Za rfl ?_; refine Gs<|Yd rfl<|Wo rfl (Vo rfl rfl)<|Zp rfl (fun h7 => ?_) (fun h7 => ?_); refine Vq rfl<|Vw rfl<|Zc rfl<|Gm<|Vv rfl (fun h8 => ?_) (fun h8 => ?_); refine Gs<|Zg Kp Kl rfl<|Vz (v := .int _ _) rfl Kl rfl rfl rfl hB2 Kc Ka E4 ?_; rintro w5 E7 hB2 K2 hz2; simp only [List.set] at hB2; have hB1 := hB1.of_heap (K2 _ Ka); refine Gm<|Zl<|Yd rfl<|Zg Kp Ku rfl ?_
    refine Vz (v := .string _) rfl Ku rfl rfl rfl hB2 Kc Ka E7 ?_; rintro w6 E10 hB2 K3 hz3; simp only [List.set] at hB2; have hB1 := hB1.of_heap (K3 _ Ka); refine Gm<|Gt<|Gs<|Xq Jb Kr hB2 rfl<|Gu rfl (Vh (a := .agg _) Jq rfl) (k3 _ _ _ ((Mono.mono E10 hM))) ?_; rintro _ w7 ⟨rfl, E13⟩; refine Yd rfl<|Wo rfl (Vy rfl rfl)<|Gm<|Zx rfl (fun h9 => ?_) (fun h9 => ?_); refine Gs<|Wo rfl (Zn (ps := []) (cs := [_, _, _]) Zz rfl rfl)<|Yx Kr (hB1.ext E13) rfl (E10.trans E13) ?_; rintro w8 E14 hB1 K4 hz4; refine Zc rfl<|Gm<|Zd ?_; rotate_left; refine Gx<|Gs<|Xq Jb Kr (hB2.ext E13) rfl<|Yx Kr (hB1.ext E13) rfl (E10.trans E13) ?_; rintro w8 E14 hB1 K4 hz4
    refine Zc rfl<|Gm<|Zd ?_; rotate_left; refine Gs<|Wo rfl (Zn (ps := []) (cs := [_, _, _]) Zz rfl rfl)<|Yx Kr hB1 rfl E4 ?_; rintro w5 E7 hB1 K2 hz2; refine Zc rfl<|Gm<|Zd ?_; rotate_left; refine Gn rfl<|Vc rfl<|Zc rfl<|Gm<|Za rfl ?_; refine Gs<|Wo rfl (Zn (ps := []) (cs := [_, _, _]) Zz rfl rfl)<|Yx Kr hB1 rfl E4 ?_; rintro w5 E7 hB1 K2 hz2; have hB2 := hB2.of_heap (K2 _ Ka); refine Zc rfl<|Gm<|Zd ?_; rotate_left; refine Gn rfl<|Gn rfl<|Gn rfl<|Vc rfl<|Vq rfl<|Gn rfl<|Gn rfl<|Gn rfl<|Vc rfl<|Zc rfl<|Gm<|Za rfl ?_; refine Gs<|Yd rfl<|Wo rfl (Vo rfl rfl)<|Zp rfl (fun h5 => ?_) (fun h5 => ?_); refine Vq rfl ?_
    refine Vw rfl<|Zc rfl<|Gm<|Vv rfl (fun h6 => ?_) (fun h6 => ?_); refine Gs<|Zg Kp Kl rfl<|Vz (v := .int _ _) rfl Kl rfl rfl rfl hB2 Kc Ka E4 ?_; rintro w5 E7 hB2 K2 hz2; simp only [List.set] at hB2; have hB1 := hB1.of_heap (K2 _ Ka); refine Gm<|Zl<|Yd rfl<|Zg Kp Ku rfl<|Vz (v := .string _) rfl Ku rfl rfl rfl hB2 Kc Ka E7 ?_; rintro w6 E10 hB2 K3 hz3; simp only [List.set] at hB2; have hB1 := hB1.of_heap (K3 _ Ka); refine Gm<|Gt<|Gs<|Xq Jb Kr hB2 rfl<|Gu rfl (Vh (a := .agg _) Jq rfl) (k3 _ _ _ ((Mono.mono E10 hM))) ?_; rintro _ w7 ⟨rfl, E13⟩
    refine Yd rfl<|Wo rfl (Vy rfl rfl)<|Gm<|Zx rfl (fun h7 => ?_) (fun h7 => ?_); refine Gs<|Wo rfl (Zn (ps := []) (cs := [_, _, _]) Zz rfl rfl)<|Yx Kr (hB1.ext E13) rfl (E10.trans E13) ?_; rintro w8 E14 hB1 K4 hz4; refine Zc rfl<|Gm<|Zd ?_; rotate_left; refine Gx<|Gs<|Xq Jb Kr (hB2.ext E13) rfl<|Yx Kr (hB1.ext E13) rfl (E10.trans E13) ?_; rintro w8 E14 hB1 K4 hz4; refine Zc rfl<|Gm<|Zd ?_; rotate_left; refine Gs<|Yd rfl<|Wo rfl (Vo rfl rfl)<|Zp rfl (fun h7 => ?_) (fun h7 => ?_); refine Vq rfl<|Vw rfl<|Zc rfl<|Gm<|Vv rfl (fun h8 => ?_) (fun h8 => ?_); refine Gs ?_
    refine Zg Kp Kl rfl<|Vz (v := .int _ _) rfl Kl rfl rfl rfl hB2 Kc Ka E4 ?_; rintro w5 E7 hB2 K2 hz2; simp only [List.set] at hB2; have hB1 := hB1.of_heap (K2 _ Ka); refine Gm<|Zl<|Yd rfl<|Zg Kp Ku rfl<|Vz (v := .string _) rfl Ku rfl rfl rfl hB2 Kc Ka E7 ?_; rintro w6 E10 hB2 K3 hz3; simp only [List.set] at hB2; have hB1 := hB1.of_heap (K3 _ Ka); refine Gm<|Gt<|Gs<|Xq Jb Kr hB2 rfl<|Gu rfl (Vh (a := .agg _) Jq rfl) (k3 _ _ _ ((Mono.mono E10 hM))) ?_; rintro _ w7 ⟨rfl, E13⟩; refine Yd rfl<|Wo rfl (Vy rfl rfl)<|Gm<|Zx rfl (fun h9 => ?_) (fun h9 => ?_); refine Gs<|Wo rfl (Zn (ps := []) (cs := [_, _, _]) Zz rfl rfl) ?_
    refine Yx Kr (hB1.ext E13) rfl (E10.trans E13) ?_; rintro w8 E14 hB1 K4 hz4; refine Zc rfl<|Gm<|Zd ?_; rotate_left; refine Gx<|Gs<|Xq Jb Kr (hB2.ext E13) rfl<|Yx Kr (hB1.ext E13) rfl (E10.trans E13) ?_; rintro w8 E14 hB1 K4 hz4; refine Zc rfl<|Gm<|Zd ?_; rotate_left; refine Gs<|Wo rfl (Zn (ps := []) (cs := [_, _, _]) Zz rfl rfl)<|Yx Kr hB1 rfl E4 ?_; rintro w5 E7 hB1 K2 hz2; refine Zc rfl<|Gm<|Zd ?_; rotate_left; refine Gn rfl<|Vc rfl<|Zc rfl<|Gm<|Za rfl ?_; refine Gs<|Wo rfl (Zn (ps := []) (cs := [_, _, _]) Zz rfl rfl)<|Yx Kr hB1 rfl E4 ?_; rintro w5 E7 hB1 K2 hz2; refine Zc rfl<|Gm<|Zd ?_; rotate_left; refine Gn rfl ?_
    refine Vc rfl<|Zc rfl<|Gm<|Za rfl ?_; refine Gs<|Yd rfl<|Wo rfl (Vo rfl rfl)<|Zp rfl (fun h6 => ?_) (fun h6 => ?_); refine Vq rfl<|Vw rfl<|Zc rfl<|Gm<|Vv rfl (fun h7 => ?_) (fun h7 => ?_); refine Gs<|Zg Kp Kl rfl<|Vz (v := .int _ _) rfl Kl rfl rfl rfl hB2 Kc Ka E4 ?_; rintro w5 E7 hB2 K2 hz2; simp only [List.set] at hB2; have hB1 := hB1.of_heap (K2 _ Ka); refine Gm<|Zl<|Yd rfl<|Zg Kp Ku rfl<|Vz (v := .string _) rfl Ku rfl rfl rfl hB2 Kc Ka E7 ?_; rintro w6 E10 hB2 K3 hz3; simp only [List.set] at hB2; have hB1 := hB1.of_heap (K3 _ Ka); refine Gm<|Gt<|Gs ?_
    refine Xq Jb Kr hB2 rfl<|Gu rfl (Vh (a := .agg _) Jq rfl) (k3 _ _ _ ((Mono.mono E10 hM))) ?_; rintro _ w7 ⟨rfl, E13⟩; refine Yd rfl<|Wo rfl (Vy rfl rfl)<|Gm<|Zx rfl (fun h8 => ?_) (fun h8 => ?_); refine Gs<|Wo rfl (Zn (ps := []) (cs := [_, _, _]) Zz rfl rfl)<|Yx Kr (hB1.ext E13) rfl (E10.trans E13) ?_; rintro w8 E14 hB1 K4 hz4; refine Zc rfl<|Gm<|Zd ?_; rotate_left; refine Gx<|Gs<|Xq Jb Kr (hB2.ext E13) rfl<|Yx Kr (hB1.ext E13) rfl (E10.trans E13) ?_; rintro w8 E14 hB1 K4 hz4; refine Zc rfl<|Gm<|Zd ?_; rotate_left; refine Gs<|Wo rfl (Zn (ps := []) (cs := [_, _, _]) Zz rfl rfl)<|Yx Kr hB1 rfl E4 ?_
    rintro w5 E7 hB1 K2 hz2; refine Zc rfl<|Gm<|Zd ?_; rotate_left; refine Gn rfl<|Vc rfl<|Zc rfl<|Gm<|Za rfl ?_; refine Gs<|Wo rfl (Zn (ps := []) (cs := [_, _, _]) Zz rfl rfl)<|Yx Kr hB1 rfl E4 ?_; rintro w5 E7 hB1 K2 hz2; refine Zc rfl<|Gm<|Zd ?_; rotate_left; refine Gn rfl<|Gn rfl<|Gn rfl<|Vc rfl<|Vq rfl<|Gn rfl<|Gn rfl<|Gn rfl<|Vc rfl<|Vq rfl<|Gn rfl<|Gn rfl<|Gn rfl<|Vc rfl<|Zc rfl<|Gm<|Za rfl ?_; refine Gs<|Yd rfl<|Wo rfl (Vo rfl rfl)<|Zp rfl (fun h4 => ?_) (fun h4 => ?_); refine Vq rfl<|Vw rfl<|Zc rfl<|Gm<|Vv rfl (fun h5 => ?_) (fun h5 => ?_); refine Gs ?_
    refine Zg Kp Kl rfl<|Vz (v := .int _ _) rfl Kl rfl rfl rfl hB2 Kc Ka E4 ?_; rintro w5 E7 hB2 K2 hz2; simp only [List.set] at hB2; have hB1 := hB1.of_heap (K2 _ Ka); refine Gm<|Zl<|Yd rfl<|Zg Kp Ku rfl<|Vz (v := .string _) rfl Ku rfl rfl rfl hB2 Kc Ka E7 ?_; rintro w6 E10 hB2 K3 hz3; simp only [List.set] at hB2; have hB1 := hB1.of_heap (K3 _ Ka); refine Gm<|Gt<|Gs<|Xq Jb Kr hB2 rfl<|Gu rfl (Vh (a := .agg _) Jq rfl) (k3 _ _ _ ((Mono.mono E10 hM))) ?_; rintro _ w7 ⟨rfl, E13⟩; refine Yd rfl<|Wo rfl (Vy rfl rfl)<|Gm<|Zx rfl (fun h6 => ?_) (fun h6 => ?_); refine Gs<|Wo rfl (Zn (ps := []) (cs := [_, _, _]) Zz rfl rfl) ?_
    refine Yx Kr (hB1.ext E13) rfl (E10.trans E13) ?_; rintro w8 E14 hB1 K4 hz4; refine Zc rfl<|Gm<|Zd ?_; rotate_left; refine Gx<|Gs<|Xq Jb Kr (hB2.ext E13) rfl<|Yx Kr (hB1.ext E13) rfl (E10.trans E13) ?_; rintro w8 E14 hB1 K4 hz4; refine Zc rfl<|Gm<|Zd ?_; rotate_left; refine Gs<|Yd rfl<|Wo rfl (Vo rfl rfl)<|Zp rfl (fun h6 => ?_) (fun h6 => ?_); refine Vq rfl<|Vw rfl<|Zc rfl<|Gm<|Vv rfl (fun h7 => ?_) (fun h7 => ?_); refine Gs<|Zg Kp Kl rfl<|Vz (v := .int _ _) rfl Kl rfl rfl rfl hB2 Kc Ka E4 ?_; rintro w5 E7 hB2 K2 hz2; simp only [List.set] at hB2; have hB1 := hB1.of_heap (K2 _ Ka); refine Gm ?_
    refine Zl<|Yd rfl<|Zg Kp Ku rfl<|Vz (v := .string _) rfl Ku rfl rfl rfl hB2 Kc Ka E7 ?_; rintro w6 E10 hB2 K3 hz3; simp only [List.set] at hB2; have hB1 := hB1.of_heap (K3 _ Ka); refine Gm<|Gt<|Gs<|Xq Jb Kr hB2 rfl<|Gu rfl (Vh (a := .agg _) Jq rfl) (k3 _ _ _ ((Mono.mono E10 hM))) ?_; rintro _ w7 ⟨rfl, E13⟩; refine Yd rfl<|Wo rfl (Vy rfl rfl)<|Gm<|Zx rfl (fun h8 => ?_) (fun h8 => ?_); refine Gs<|Wo rfl (Zn (ps := []) (cs := [_, _, _]) Zz rfl rfl)<|Yx Kr (hB1.ext E13) rfl (E10.trans E13) ?_; rintro w8 E14 hB1 K4 hz4; refine Zc rfl<|Gm<|Zd ?_; rotate_left; refine Gx<|Gs<|Xq Jb Kr (hB2.ext E13) rfl ?_
    refine Yx Kr (hB1.ext E13) rfl (E10.trans E13) ?_; rintro w8 E14 hB1 K4 hz4; refine Zc rfl<|Gm<|Zd ?_; rotate_left; refine Gs<|Wo rfl (Zn (ps := []) (cs := [_, _, _]) Zz rfl rfl)<|Yx Kr hB1 rfl E4 ?_; rintro w5 E7 hB1 K2 hz2; refine Zc rfl<|Gm<|Zd ?_; rotate_left; refine Gn rfl<|Vc rfl<|Zc rfl<|Gm<|Za rfl ?_; refine Gs<|Wo rfl (Zn (ps := []) (cs := [_, _, _]) Zz rfl rfl)<|Yx Kr hB1 rfl E4 ?_; rintro w5 E7 hB1 K2 hz2; refine Zc rfl<|Gm<|Zd ?_; rotate_left; refine Gn rfl<|Vc rfl<|Zc rfl<|Gm<|Za rfl ?_; refine Gs<|Yd rfl<|Wo rfl (Vo rfl rfl)<|Zp rfl (fun h5 => ?_) (fun h5 => ?_); refine Vq rfl ?_
    refine Vw rfl<|Zc rfl<|Gm<|Vv rfl (fun h6 => ?_) (fun h6 => ?_); refine Gs<|Zg Kp Kl rfl<|Vz (v := .int _ _) rfl Kl rfl rfl rfl hB2 Kc Ka E4 ?_; rintro w5 E7 hB2 K2 hz2; simp only [List.set] at hB2; have hB1 := hB1.of_heap (K2 _ Ka); refine Gm<|Zl<|Yd rfl<|Zg Kp Ku rfl<|Vz (v := .string _) rfl Ku rfl rfl rfl hB2 Kc Ka E7 ?_; rintro w6 E10 hB2 K3 hz3; simp only [List.set] at hB2; have hB1 := hB1.of_heap (K3 _ Ka); refine Gm<|Gt<|Gs<|Xq Jb Kr hB2 rfl<|Gu rfl (Vh (a := .agg _) Jq rfl) (k3 _ _ _ ((Mono.mono E10 hM))) ?_; rintro _ w7 ⟨rfl, E13⟩
    refine Yd rfl<|Wo rfl (Vy rfl rfl)<|Gm<|Zx rfl (fun h7 => ?_) (fun h7 => ?_); refine Gs<|Wo rfl (Zn (ps := []) (cs := [_, _, _]) Zz rfl rfl)<|Yx Kr (hB1.ext E13) rfl (E10.trans E13) ?_; rintro w8 E14 hB1 K4 hz4; refine Zc rfl<|Gm<|Zd ?_; rotate_left; refine Gx<|Gs<|Xq Jb Kr (hB2.ext E13) rfl<|Yx Kr (hB1.ext E13) rfl (E10.trans E13) ?_; rintro w8 E14 hB1 K4 hz4; refine Zc rfl<|Gm<|Zd ?_; rotate_left; refine Gs<|Wo rfl (Zn (ps := []) (cs := [_, _, _]) Zz rfl rfl)<|Yx Kr hB1 rfl E4 ?_; rintro w5 E7 hB1 K2 hz2; refine Zc rfl<|Gm<|Zd ?_; rotate_left; refine Gn rfl<|Vc rfl<|Zc rfl<|Gm<|Za rfl ?_; refine Gs ?_
    refine Wo rfl (Zn (ps := []) (cs := [_, _, _]) Zz rfl rfl)<|Yx Kr hB1 rfl E4 ?_; rintro w5 E7 hB1 K2 hz2; refine Zc rfl<|Gm<|Zd ?_; rotate_left
  all_goals refine ⟨_, _, _, _, rfl, Kd, ?_, Kd⟩
  all_goals first
    | refine leaf_none ?_ rfl
    | refine leaf_some ?_ rfl
  all_goals clear hc hO k1 k2 k3 hW hR hH hRl hr8
  all_goals rw [hr]
  all_goals try (simp_all; done)
  all_goals (clear hr; simp_all)
  all_goals (rw [if_neg Ka])
end Go.Proofs.YtbgpppaljpngmaaGreatDoor
namespace Go.Proofs.YtbgpppaljpngmaaGreatDoor
open Go.Hs
set_option maxRecDepth 10000
set_option maxHeartbeats 4000000
set_option linter.unusedVariables false
set_option linter.unusedSimpArgs false
def digN (l : List UInt8) : Int := l.foldl (fun n c => 10 * n + ((c.toNat : Int) - 48)) 0
def digV (t : List UInt8) : Int := if (1 ≤ (t.length : Int) ∧ (t.length : Int) ≤ 5) ∧ ¬ (1 < (t.length : Int) ∧ ((t.getD 0 0).toNat : Int) = 48) ∧ ∀ c ∈ t, 48 ≤ c.toNat ∧ c.toNat ≤ 57 then digN t else -1
theorem digV_one {d : Nat} (hd : d ≤ 9) : digV [dig d] = d := by
  have h := Qa (n := d) Ka
  rw [digV, if_pos]
  · simp only [digN, List.foldl_cons, List.foldl_nil, h]; omega
  · refine ⟨Ki, Ki, fun c hc => ?_⟩
    obtain rfl := List.mem_singleton.1 hc; omega
theorem Ub (w : World) (t : List UInt8) (ht : t.length ≤ 1048576) : Does Tryz.prog 114 [str t] w (Ret w (.int .i64 (digV t))) := by
  refine Zy Tryz.func114 rfl Tryz.results114 Tryz.ntmps114 rfl ?_
  focus
    refine Gs<|Zr rfl<|Gm<|Gt<|Gs<|Yd rfl<|Wo rfl (Yh Je rfl)<|Gu rfl (Sy (a := .int _ _) (b := .int _ _) (c := .int _ _) Jr rfl rfl rfl) (Qe _ _ _ _) ?_; rintro _ w1 ⟨rfl, E1⟩; refine Vt rfl<|Xv rfl (fun h1 => ?_) (fun h1 => ?_); refine Gn rfl<|Gn rfl<|Gn rfl<|Gn rfl<|Gn rfl<|Gn rfl<|Gn rfl<|Gn rfl<|Vw rfl<|Gm<|Vj rfl ?_; refine Gs<|Zr rfl<|Gm<|Zd ?_; refine Zk (v := .int _ _) rfl ?_; refine ⟨congrArg (Value.int .i64) ?_, E1⟩; rotate_left; refine Yd rfl<|Wo rfl (Yh Je rfl)<|Yt rfl<|Zp rfl (fun h2 => ?_) (fun h2 => ?_); refine Yd rfl ?_
    refine Wo rfl (Yl (k := 0) Je rfl rfl Ka) ?_; refine Zs rfl<|Vw rfl<|Vc rfl<|Gm<|Gq rfl (fun h3 => ?_) (fun h3 => ?_); refine Gs<|Zr rfl<|Gm<|Zd ?_; refine Zk (v := .int _ _) rfl ?_; refine ⟨congrArg (Value.int .i64) ?_, E1⟩; rotate_left; refine Gx<|Gs<|Zr rfl<|Gm<|Gt<|Gs<|Zr rfl<|Gm<|Gy ?_; rotate_left; refine Gn rfl<|Gn rfl<|Gn rfl<|Vc rfl<|Vc rfl<|Gm<|Za rfl ?_; refine Gx<|Gs<|Zr rfl<|Gm<|Gt<|Gs<|Zr rfl<|Gm<|Gy ?_; rotate_left
  · rw [digV, if_neg (fun h => Ka)]
  · rw [digV, if_neg (fun h => Ka)]
  · focus
    refine Vf [2, 3, 4, 19, 20, 21, 22, 23, 24, 25, 26, 27, 28, 29, 30, 31, 32, 33, 34, 35, 36, 37, 38, 39, 40, 41, 42] (fun ((k, n) : Nat × Int) => [(4, .int .i64 (k : Nat)), (3, .int .i64 n)]) (fun (k, n) w' => Ext w w' ∧ k ≤ t.length ∧ 0 ≤ n ∧ (k ≤ 0 → n ≤ 0) ∧ (k ≤ 1 → n ≤ 9) ∧ (k ≤ 2 → n ≤ 99) ∧ (k ≤ 3 → n ≤ 999) ∧ (k ≤ 4 → n ≤ 9999) ∧ n ≤ 99999 ∧ n = digN (t.take k) ∧ ∀ c ∈ t.take k, 48 ≤ c.toNat ∧ c.toNat ≤ 57) (fun x => t.length - x.1) (0, 0) Kg ?_ ?_
    · exact ⟨Kd, Nat.zero_le _, Ka, Ka, Ka, Ka, Ka, Ka, Ka, by simp [digN], Ki⟩
    rintro ⟨k, n⟩ ρj w2 ⟨E2, hk, h0, i0, i1, i2, i3, i4, i5, hone, hall⟩
    have hc8 : (t.getD k 0).toNat < 256 := UInt8.toNat_lt _
    focus
      refine Gt<|Gs<|Gz rfl<|Yd rfl<|Wo rfl (Yh Je rfl)<|Zo rfl<|Gm<|Gq rfl (fun h4 => ?_) (fun h4 => ?_); refine Gx<|Gt<|Gy<|Gt<|Gs<|Yd rfl<|Gz rfl<|Wo rfl (Yl Je rfl rfl Ka) ?_; refine Zo rfl<|Zp rfl (fun h5 => ?_) (fun h5 => ?_); refine Gn rfl<|Gn rfl<|Gn rfl<|Gn rfl<|Vw rfl<|Gm<|Vj rfl ?_; refine Gs<|Zr rfl<|Gm<|Zd ?_; refine Zk (v := .int _ _) rfl ?_; refine ⟨congrArg (Value.int .i64) ?_, E2⟩; rotate_left; refine Yd rfl<|Gz rfl<|Wo rfl (Yl Je rfl rfl Ka) ?_; refine Yt rfl<|Vc rfl<|Gm<|Gq rfl (fun h6 => ?_) (fun h6 => ?_)
      refine Gs<|Zr rfl<|Gm<|Zd ?_; refine Zk (v := .int _ _) rfl ?_; refine ⟨congrArg (Value.int .i64) ?_, E2⟩; rotate_left; refine Gx<|Zl<|Gz rfl<|Wo rfl (Xg rfl rfl Ka) ?_; refine Yd rfl<|Gz rfl<|Wo rfl (Yl Je rfl rfl Ka) ?_; refine Wo rfl (opv_sub_u8 rfl rfl Ka) ?_; refine Wo rfl (Xz Jt Jy rfl Ka) ?_; refine Va rfl<|Zr rfl<|Gm<|Zl<|Gz rfl<|Va rfl<|Zr rfl<|Gm ?_; rotate_left; refine Ve ?_; refine Zi ?_; refine Gs<|Gz rfl<|Zr rfl<|Gm<|Zd ?_; refine Zk (v := .int _ _) rfl ?_; refine ⟨congrArg (Value.int .i64) ?_, E2⟩; rotate_left
    · rw [digV, if_neg]
      rintro ⟨_, _, h⟩
      have := h (t.getD k 0) (by rw [Vg Ka]; exact List.getElem_mem _)
      omega
    · rw [digV, if_neg]
      rintro ⟨_, _, h⟩
      have := h (t.getD k 0) (by rw [Vg Ka]; exact List.getElem_mem _)
      omega
    · refine ⟨((k + 1, 10 * n + (((t.getD k 0).toNat : Int) - 48))), Kg, Kh, ?_, ?_⟩
      · have hts : t.take (k + 1) = t.take k ++ [t.getD k 0] := by rw [Vg Ka]; exact List.take_succ_eq_append_getElem Ka
        refine ⟨Kd, Ka, Ka, Ka, Ka, Ka, Ka, Ka, Ka, ?_, ?_⟩
        · rw [hts, digN, List.foldl_append, ← digN, ← hone]; rfl
        · rw [hts]
          intro c hc
          rcases List.mem_append.1 hc with hc | hc
          · exact hall c hc
          · obtain rfl := List.mem_singleton.1 hc; omega
      · simp only; omega
    · obtain rfl : k = t.length := by omega
      rw [List.take_length] at hone hall
      rw [hone, digV, if_pos ⟨Ka, Ka, hall⟩]
  · focus
    refine Vf [2, 3, 4, 19, 20, 21, 22, 23, 24, 25, 26, 27, 28, 29, 30, 31, 32, 33, 34, 35, 36, 37, 38, 39, 40, 41, 42] (fun ((k, n) : Nat × Int) => [(4, .int .i64 (k : Nat)), (3, .int .i64 n)]) (fun (k, n) w' => Ext w w' ∧ k ≤ t.length ∧ 0 ≤ n ∧ (k ≤ 0 → n ≤ 0) ∧ (k ≤ 1 → n ≤ 9) ∧ (k ≤ 2 → n ≤ 99) ∧ (k ≤ 3 → n ≤ 999) ∧ (k ≤ 4 → n ≤ 9999) ∧ n ≤ 99999 ∧ n = digN (t.take k) ∧ ∀ c ∈ t.take k, 48 ≤ c.toNat ∧ c.toNat ≤ 57) (fun x => t.length - x.1) (0, 0) Kg ?_ ?_
    · exact ⟨Kd, Nat.zero_le _, Ka, Ka, Ka, Ka, Ka, Ka, Ka, by simp [digN], Ki⟩
    rintro ⟨k, n⟩ ρj w2 ⟨E2, hk, h0, i0, i1, i2, i3, i4, i5, hone, hall⟩
    have hc8 : (t.getD k 0).toNat < 256 := UInt8.toNat_lt _
    focus
      refine Gt<|Gs<|Gz rfl<|Yd rfl<|Wo rfl (Yh Je rfl)<|Zo rfl<|Gm<|Gq rfl (fun h3 => ?_) (fun h3 => ?_); refine Gx<|Gt<|Gy<|Gt<|Gs<|Yd rfl<|Gz rfl<|Wo rfl (Yl Je rfl rfl Ka) ?_; refine Zo rfl<|Zp rfl (fun h4 => ?_) (fun h4 => ?_); refine Gn rfl<|Gn rfl<|Gn rfl<|Gn rfl<|Vw rfl<|Gm<|Vj rfl ?_; refine Gs<|Zr rfl<|Gm<|Zd ?_; refine Zk (v := .int _ _) rfl ?_; refine ⟨congrArg (Value.int .i64) ?_, E2⟩; rotate_left; refine Yd rfl<|Gz rfl<|Wo rfl (Yl Je rfl rfl Ka) ?_; refine Yt rfl<|Vc rfl<|Gm<|Gq rfl (fun h5 => ?_) (fun h5 => ?_)
      refine Gs<|Zr rfl<|Gm<|Zd ?_; refine Zk (v := .int _ _) rfl ?_; refine ⟨congrArg (Value.int .i64) ?_, E2⟩; rotate_left; refine Gx<|Zl<|Gz rfl<|Wo rfl (Xg rfl rfl Ka) ?_; refine Yd rfl<|Gz rfl<|Wo rfl (Yl Je rfl rfl Ka) ?_; refine Wo rfl (opv_sub_u8 rfl rfl Ka) ?_; refine Wo rfl (Xz Jt Jy rfl Ka) ?_; refine Va rfl<|Zr rfl<|Gm<|Zl<|Gz rfl<|Va rfl<|Zr rfl<|Gm ?_; rotate_left; refine Ve ?_; refine Zi ?_; refine Gs<|Gz rfl<|Zr rfl<|Gm<|Zd ?_; refine Zk (v := .int _ _) rfl ?_; refine ⟨congrArg (Value.int .i64) ?_, E2⟩; rotate_left
    · rw [digV, if_neg]
      rintro ⟨_, _, h⟩
      have := h (t.getD k 0) (by rw [Vg Ka]; exact List.getElem_mem _)
      omega
    · rw [digV, if_neg]
      rintro ⟨_, _, h⟩
      have := h (t.getD k 0) (by rw [Vg Ka]; exact List.getElem_mem _)
      omega
    · refine ⟨((k + 1, 10 * n + (((t.getD k 0).toNat : Int) - 48))), Kg, Kh, ?_, ?_⟩
      · have hts : t.take (k + 1) = t.take k ++ [t.getD k 0] := by rw [Vg Ka]; exact List.take_succ_eq_append_getElem Ka
        refine ⟨Kd, Ka, Ka, Ka, Ka, Ka, Ka, Ka, Ka, ?_, ?_⟩
        · rw [hts, digN, List.foldl_append, ← digN, ← hone]; rfl
        · rw [hts]
          intro c hc
          rcases List.mem_append.1 hc with hc | hc
          · exact hall c hc
          · obtain rfl := List.mem_singleton.1 hc; omega
      · simp only; omega
    · obtain rfl : k = t.length := by omega
      rw [List.take_length] at hone hall
      rw [hone, digV, if_pos ⟨Ka, Ka, hall⟩]
end Go.Proofs.YtbgpppaljpngmaaGreatDoor
namespace Go.Proofs.YtbgpppaljpngmaaGreatDoor
open Go.Hs
set_option maxRecDepth 10000
set_option maxHeartbeats 4000000
set_option linter.unusedVariables false
set_option linter.unusedSimpArgs false
theorem Xs : ElD Tryz.prog 59 48 := ElD.of Ji Kb Kr Tryz.zeroValue48
def rdL (ps : List (List UInt8)) (z : Int) : List Deed := [⟨0, [], 0⟩, ⟨4, [], 0⟩] ++ if ps.length = 2 then [⟨1, ps.getD 1 [], 0⟩, ⟨2, ps.getD 1 [], 0⟩, ⟨3, [], z⟩] else []
theorem rdL_all {s : List UInt8} {z : Int} (hz : ∀ d : Nat, d ≤ 9 → (cutB 32 s).getD 1 [] = [dig d] → z = d) {a : Deed} (h : rdD s = some a) : a ∈ rdL (cutB 32 s) z := by
  have ht := rdD_told h
  have h1 := (Sh h).1
  cases ht with
  | single => simp [rdL]
  | back => simp [rdL]
  | into d hd =>
    rw [Ra hd] at h1
    subst h1
    have e : cutB 32 (sInto ++ [dig d]) = [wInto, [dig d]] := by
      have hn : (32 : UInt8) ∉ [dig d] := by
        intro hm
        have := List.mem_singleton.1 hm
        have h2 := congrArg UInt8.toNat this
        rw [Qa Ka] at h2
        have : (32 : UInt8).toNat = 32 := rfl
        omega
      rw [show sInto ++ [dig d] = wInto ++ 32 :: [dig d] from rfl, Si Kc, So hn]
    rw [e] at hz ⊢
    rw [hz d hd rfl]
    simp [rdL]
  | add p hp =>
    rw [Ro hp] at h1
    subst h1
    have e : cutB 32 (sAdd ++ txt p) = [wAdd, txt p] := by
      rw [show sAdd ++ txt p = wAdd ++ 32 :: txt p from rfl, Si Kc, So (txt_no hp.gr Kc)]
    rw [e]
    simp [rdL]
  | drop p hp =>
    rw [Qr hp] at h1
    subst h1
    have e : cutB 32 (sDrop ++ txt p) = [wDrop, txt p] := by
      rw [show sDrop ++ txt p = wDrop ++ 32 :: txt p from rfl, Si Kc, So (txt_no hp.gr Kc)]
    rw [e]
    simp [rdL]
theorem spec_ReadDeed_ok (w : World) (s : List UInt8) (hs : s.length ≤ 1048576) :
    Does Tryz.prog 61 [str s] w (Ret w (.tuple #[dv ((rdD s).getD ⟨0, [], 0⟩), .bool (rdD s).isSome])) := by
  obtain ⟨ps, hps⟩ : ∃ ps, ps = cutB 32 s := ⟨_, rfl⟩
  have k1 : ∀ w, Does Tryz.prog 70 [str s, .int .u8 32] w (RetO w XS ps) := fun w => hps ▸ l1Cut_ok w s 32 hs
  have hpe : ∀ (k : Nat) (hk : k < ps.length), ps[k].length ≤ 1048576 := fun k hk => by
    have : ps[k] ∈ cutB 32 s := hps ▸ List.getElem_mem hk
    have := Sf s.length s (Nat.le_refl _) _ this; omega
  obtain ⟨z, hz⟩ : ∃ z : Int, z = digV (ps.getD 1 []) := ⟨_, rfl⟩
  obtain ⟨L, hL⟩ : ∃ L, L = rdL ps z := ⟨_, rfl⟩
  have hall : ∀ a, rdD s = some a → a ∈ L := fun a h => by
    rw [hL, hps]
    refine rdL_all (fun d hd e => ?_) h
    rw [hz, hps, e, digV_one hd]
  have hlen : L.length ≤ 5 := by rw [hL]; unfold rdL; split <;> simp
  have htx : ∀ (k : Nat) (h : k < L.length), L[k].text.length ≤ 1048576 := fun k h => by
    have hm : L[k] ∈ rdL ps z := hL ▸ List.getElem_mem h
    unfold rdL at hm
    split at hm
    · rename_i h2
      have hp1 := hpe 1 Ka
      have hg1 : ps.getD 1 [] = ps[1] := Vg Ka
      rw [hg1] at hm
      simp only [List.cons_append, List.nil_append, List.mem_cons, List.not_mem_nil, or_false] at hm
      rcases hm with h | h | h | h | h <;> rw [h] <;> simp <;> omega
    · simp only [List.append_nil, List.mem_cons, List.not_mem_nil, or_false] at hm
      rcases hm with h | h <;> rw [h] <;> simp
  refine fn_of_Wc3t Tryz.func61 rfl Tryz.results61 Tryz.ntmps61 rfl Jb Kr ?_
  have stopC : True := trivial
  focus
    refine Gs<|Yi rfl Zz ?_; rintro b1 w1 hb1 E1 hB1; refine Zc rfl<|Gm<|Gt<|Zl<|Yd rfl<|Gu rfl (Vb (a := .string _) (b := .int _ _) Tryz.call70 rfl rfl) (k1 _) ?_; rintro u1 w2 ⟨E2, hO1⟩; refine Vn u1 rfl<|Gm<|Gs<|Wo rfl (Zn (ps := [(0, .int _ _)]) (cs := [_, _, _]) Zz rfl rfl)<|Wo rfl (Zn (ps := [(0, .int _ _)]) (cs := [_, _, _]) Zz rfl rfl)<|Wo_buildD2 (a1 := ⟨_, _, _⟩) (a2 := ⟨_, _, _⟩) rfl Xs rfl rfl (by first | assumption | omega | (simp <;> omega)) (by first | assumption | omega | (simp <;> omega)) ?_; rintro b2 w3 hb2 E3 hO2; have hs3 := E3.size; refine Vr rfl<|Gm<|Gt<|Gs<|Zh u1 rfl<|Zm Jh rfl (Owned.read hO1)<|Zs rfl<|Gm ?_
  clear stopC
  refine W_mid [5, 15, 16, 17, 18, 19, 20, 21, 22, 23, 24, 25, 26, 27, 28, 29, 30] (fun (v : Value) => [(5, v)]) (fun v w' => Ext w2 w' ∧ OD 48 w2.heap.size w' v L) ?_ ?_
  · by_cases h2 : ps.length = 2
    · have hp1 := hpe 1 Ka
      have hg1 : ps.getD 1 [] = ps[1] := Vg Ka
      have stop4 : True := trivial
      focus
        have szE3 := E3.size; have szE2 := E2.size; have szE1 := E1.size; refine Gq rfl (fun h1 => ?_) (fun h1 => ?_); rotate_left; (exfalso; omega)
      clear stop4
      obtain ⟨ub, uc, rfl, _⟩ := hO1.lit Ka
      have hcell : w3.cell? ⟨ub, 0 + 1, none⟩ = some (str ps[1]) := by
        obtain ⟨a', c', e, _, hR⟩ := hO1.read
        rcases hR with hR | ⟨b', o', e2, hR⟩
        · rw [hR] at h2; cases h2
        · subst e2; injection e with e3 e4 e5; injection e3 with e3; injection e3 with e6 e7; subst e6; subst e7
          obtain ⟨u, hu, rfl, _⟩ := hR 1 Ka
          exact E3.cell hu
      have eL : L = [⟨0, [], 0⟩, ⟨4, [], 0⟩] ++ [⟨1, ps[1], 0⟩, ⟨2, ps[1], 0⟩, ⟨3, [], digV ps[1]⟩] := by rw [hL, hz, rdL, if_pos h2, hg1]
      rw [eL]
      clear hall hlen htx hL hz eL
      focus
        refine Qb (fun _ => True) Yn rfl Kb ?_; intro w4 E4 K1 hz1; refine WtmS 0 rfl rfl trivial<|WtmS 1 rfl rfl trivial<|Zj 2 rfl Kb Kb rfl (fun _ _ => Zu (k := 1) Jh Ku rfl rfl Ka) trivial ?_; refine WtmS 5 rfl rfl trivial<|Zj 6 rfl Kb Kb rfl (fun _ _ => Zu (k := 1) Jh Ku rfl rfl Ka) trivial ?_; refine WtmS 9 rfl rfl trivial<|Zj 10 rfl Kb Kb rfl (fun _ _ => Zu (k := 1) Jh Ku rfl rfl Ka) trivial ?_; refine Wha [3, 7, 11]<|Gp rfl ?_ ?_; refine Wo rfl (Zv Kx rfl (E4.cell hcell))<|Gm ?_; refine ⟨trivial, ?_⟩
        refine Zj 4 rfl Kb Kb rfl (fun _ _ => Zn (ps := [(0, .int _ _), (1, .string _)]) (cs := [_, _, _]) Zz rfl rfl) trivial ?_; refine Wha [7, 11]<|Gp rfl ?_ ?_; refine Wo rfl (Zv Kx rfl (E4.cell hcell))<|Gm ?_; refine ⟨trivial, ?_⟩; refine Zj 8 rfl Kb Kb rfl (fun _ _ => Zn (ps := [(0, .int _ _), (1, .string _)]) (cs := [_, _, _]) Zz rfl rfl) trivial ?_; refine Wha [11]<|Gp rfl ?_ ?_; refine Wo rfl (Zv Kx rfl (E4.cell hcell))<|Gm ?_; refine ⟨trivial, ?_⟩; refine Wha [12]<|Gp rfl ?_ ?_; refine Gu rfl (Vh (a := .string _) Ga rfl) (Ub _ _ Kd) ?_; rintro _ w5 ⟨rfl, E5⟩; have hs5 := E5.size; refine Gm ?_; refine ⟨trivial, ?_⟩
        refine Zj 13 rfl Kb Kb rfl (fun _ _ => Zn (ps := [(0, .int _ _), (2, .int _ _)]) (cs := [_, _, _]) Zz rfl rfl) trivial ?_; refine Wha [14]<|Gp rfl ?_ ?_; refine Ud (a1 := ⟨_, _, _⟩) (a2 := ⟨_, _, _⟩) (a3 := ⟨_, _, _⟩) rfl Xs rfl rfl rfl (by first | assumption | omega | (simp <;> omega)) (by first | assumption | omega | (simp <;> omega)) (by first | assumption | omega | (simp <;> omega)) ?_; rintro b3 w6 hb3 E6 hO3; have hs6 := E6.size; refine Gm ?_; refine ⟨trivial, ?_⟩; refine Wha [15]<|Gp rfl ?_ ?_; refine Qf rfl Xs rfl rfl (hO2.ext ((E4.trans E5).trans E6)) hO3 Kf Ka (((E3.trans E4).trans E5).trans E6) Ka ?_; rintro v1 w7 hO4 E7 G1; refine Gm ?_
        refine ⟨trivial, ?_⟩; refine WtaV 16 v1 rfl rfl trivial<|Vd Kb ?_; rotate_left; exact Gv; exact Gv; exact Gv; exact Gv; refine Gp rfl ?_ ?_; refine Wo rfl (Zv Kx rfl (E4.cell hcell))<|Gm ?_; refine ⟨trivial, ?_⟩; refine Wha [7, 12]<|Gp rfl ?_ ?_; refine Wo rfl (Zv Kx rfl (E4.cell hcell))<|Gm ?_; refine ⟨trivial, ?_⟩; refine Zj 8 rfl Kb Kb rfl (fun _ _ => Zn (ps := [(0, .int _ _), (1, .string _)]) (cs := [_, _, _]) Zz rfl rfl) trivial ?_; refine Wha [12]<|Gp rfl ?_ ?_; refine Gu rfl (Vh (a := .string _) Ga rfl) (Ub _ _ Kd) ?_; rintro _ w5 ⟨rfl, E5⟩; have hs5 := E5.size; refine Gm ?_; refine ⟨trivial, ?_⟩
        refine Zj 13 rfl Kb Kb rfl (fun _ _ => Zn (ps := [(0, .int _ _), (2, .int _ _)]) (cs := [_, _, _]) Zz rfl rfl) trivial ?_; refine Wha [14]<|Gp rfl ?_ ?_; refine Ud (a1 := ⟨_, _, _⟩) (a2 := ⟨_, _, _⟩) (a3 := ⟨_, _, _⟩) rfl Xs rfl rfl rfl (by first | assumption | omega | (simp <;> omega)) (by first | assumption | omega | (simp <;> omega)) (by first | assumption | omega | (simp <;> omega)) ?_; rintro b3 w6 hb3 E6 hO3; have hs6 := E6.size; refine Gm ?_; refine ⟨trivial, ?_⟩; refine Wha [15]<|Gp rfl ?_ ?_; refine Qf rfl Xs rfl rfl (hO2.ext ((E4.trans E5).trans E6)) hO3 Kf Ka (((E3.trans E4).trans E5).trans E6) Ka ?_; rintro v1 w7 hO4 E7 G1; refine Gm ?_
        refine ⟨trivial, ?_⟩; refine WtaV 16 v1 rfl rfl trivial<|Vd Kb ?_; rotate_left; exact Gv; exact Gv; exact Gv; refine Gp rfl ?_ ?_; refine Gu rfl (Vh (a := .string _) Ga rfl) (Ub _ _ Kd) ?_; rintro _ w5 ⟨rfl, E5⟩; have hs5 := E5.size; refine Gm ?_; refine ⟨trivial, ?_⟩; refine Zj 13 rfl Kb Kb rfl (fun _ _ => Zn (ps := [(0, .int _ _), (2, .int _ _)]) (cs := [_, _, _]) Zz rfl rfl) trivial ?_; refine Wha [7]<|Gp rfl ?_ ?_; refine Wo rfl (Zv Kx rfl ((E4.trans E5).cell hcell))<|Gm ?_; refine ⟨trivial, ?_⟩; refine Zj 8 rfl Kb Kb rfl (fun _ _ => Zn (ps := [(0, .int _ _), (1, .string _)]) (cs := [_, _, _]) Zz rfl rfl) trivial ?_; refine Wha [14]<|Gp rfl ?_ ?_
        refine Ud (a1 := ⟨_, _, _⟩) (a2 := ⟨_, _, _⟩) (a3 := ⟨_, _, _⟩) rfl Xs rfl rfl rfl (by first | assumption | omega | (simp <;> omega)) (by first | assumption | omega | (simp <;> omega)) (by first | assumption | omega | (simp <;> omega)) ?_; rintro b3 w6 hb3 E6 hO3; have hs6 := E6.size; refine Gm ?_; refine ⟨trivial, ?_⟩; refine Wha [15]<|Gp rfl ?_ ?_; refine Qf rfl Xs rfl rfl (hO2.ext ((E4.trans E5).trans E6)) hO3 Kf Ka (((E3.trans E4).trans E5).trans E6) Ka ?_; rintro v1 w7 hO4 E7 G1; refine Gm ?_; refine ⟨trivial, ?_⟩; refine WtaV 16 v1 rfl rfl trivial<|Vd Kb ?_; rotate_left; exact Gv; exact Gv; exact Gv; exact Gv; exact Gv; refine Gp rfl ?_ ?_; refine Wo rfl (Zv Kx rfl (E4.cell hcell))<|Gm ?_; refine ⟨trivial, ?_⟩
        refine Zj 8 rfl Kb Kb rfl (fun _ _ => Zn (ps := [(0, .int _ _), (1, .string _)]) (cs := [_, _, _]) Zz rfl rfl) trivial ?_; refine Wha [3, 11]<|Gp rfl ?_ ?_; refine Wo rfl (Zv Kx rfl (E4.cell hcell))<|Gm ?_; refine ⟨trivial, ?_⟩; refine Zj 4 rfl Kb Kb rfl (fun _ _ => Zn (ps := [(0, .int _ _), (1, .string _)]) (cs := [_, _, _]) Zz rfl rfl) trivial ?_; refine Wha [11]<|Gp rfl ?_ ?_; refine Wo rfl (Zv Kx rfl (E4.cell hcell))<|Gm ?_; refine ⟨trivial, ?_⟩; refine Wha [12]<|Gp rfl ?_ ?_; refine Gu rfl (Vh (a := .string _) Ga rfl) (Ub _ _ Kd) ?_; rintro _ w5 ⟨rfl, E5⟩; have hs5 := E5.size; refine Gm ?_; refine ⟨trivial, ?_⟩
        refine Zj 13 rfl Kb Kb rfl (fun _ _ => Zn (ps := [(0, .int _ _), (2, .int _ _)]) (cs := [_, _, _]) Zz rfl rfl) trivial ?_; refine Wha [14]<|Gp rfl ?_ ?_; refine Ud (a1 := ⟨_, _, _⟩) (a2 := ⟨_, _, _⟩) (a3 := ⟨_, _, _⟩) rfl Xs rfl rfl rfl (by first | assumption | omega | (simp <;> omega)) (by first | assumption | omega | (simp <;> omega)) (by first | assumption | omega | (simp <;> omega)) ?_; rintro b3 w6 hb3 E6 hO3; have hs6 := E6.size; refine Gm ?_; refine ⟨trivial, ?_⟩; refine Wha [15]<|Gp rfl ?_ ?_; refine Qf rfl Xs rfl rfl (hO2.ext ((E4.trans E5).trans E6)) hO3 Kf Ka (((E3.trans E4).trans E5).trans E6) Ka ?_; rintro v1 w7 hO4 E7 G1; refine Gm ?_
        refine ⟨trivial, ?_⟩; refine WtaV 16 v1 rfl rfl trivial<|Vd Kb ?_; rotate_left; exact Gv; exact Gv; exact Gv; exact Gv; refine Gp rfl ?_ ?_; refine Wo rfl (Zv Kx rfl (E4.cell hcell))<|Gm ?_; refine ⟨trivial, ?_⟩; refine Wha [3, 12]<|Gp rfl ?_ ?_; refine Wo rfl (Zv Kx rfl (E4.cell hcell))<|Gm ?_; refine ⟨trivial, ?_⟩; refine Zj 4 rfl Kb Kb rfl (fun _ _ => Zn (ps := [(0, .int _ _), (1, .string _)]) (cs := [_, _, _]) Zz rfl rfl) trivial ?_; refine Wha [12]<|Gp rfl ?_ ?_; refine Gu rfl (Vh (a := .string _) Ga rfl) (Ub _ _ Kd) ?_; rintro _ w5 ⟨rfl, E5⟩; have hs5 := E5.size; refine Gm ?_; refine ⟨trivial, ?_⟩
        refine Zj 13 rfl Kb Kb rfl (fun _ _ => Zn (ps := [(0, .int _ _), (2, .int _ _)]) (cs := [_, _, _]) Zz rfl rfl) trivial ?_; refine Wha [14]<|Gp rfl ?_ ?_; refine Ud (a1 := ⟨_, _, _⟩) (a2 := ⟨_, _, _⟩) (a3 := ⟨_, _, _⟩) rfl Xs rfl rfl rfl (by first | assumption | omega | (simp <;> omega)) (by first | assumption | omega | (simp <;> omega)) (by first | assumption | omega | (simp <;> omega)) ?_; rintro b3 w6 hb3 E6 hO3; have hs6 := E6.size; refine Gm ?_; refine ⟨trivial, ?_⟩; refine Wha [15]<|Gp rfl ?_ ?_; refine Qf rfl Xs rfl rfl (hO2.ext ((E4.trans E5).trans E6)) hO3 Kf Ka (((E3.trans E4).trans E5).trans E6) Ka ?_; rintro v1 w7 hO4 E7 G1; refine Gm ?_
        refine ⟨trivial, ?_⟩; refine WtaV 16 v1 rfl rfl trivial<|Vd Kb ?_; rotate_left; exact Gv; exact Gv; exact Gv; refine Gp rfl ?_ ?_; refine Gu rfl (Vh (a := .string _) Ga rfl) (Ub _ _ Kd) ?_; rintro _ w5 ⟨rfl, E5⟩; have hs5 := E5.size; refine Gm ?_; refine ⟨trivial, ?_⟩; refine Zj 13 rfl Kb Kb rfl (fun _ _ => Zn (ps := [(0, .int _ _), (2, .int _ _)]) (cs := [_, _, _]) Zz rfl rfl) trivial ?_; refine Wha [3]<|Gp rfl ?_ ?_; refine Wo rfl (Zv Kx rfl ((E4.trans E5).cell hcell))<|Gm ?_; refine ⟨trivial, ?_⟩; refine Zj 4 rfl Kb Kb rfl (fun _ _ => Zn (ps := [(0, .int _ _), (1, .string _)]) (cs := [_, _, _]) Zz rfl rfl) trivial ?_; refine Wha [14]<|Gp rfl ?_ ?_
        refine Ud (a1 := ⟨_, _, _⟩) (a2 := ⟨_, _, _⟩) (a3 := ⟨_, _, _⟩) rfl Xs rfl rfl rfl (by first | assumption | omega | (simp <;> omega)) (by first | assumption | omega | (simp <;> omega)) (by first | assumption | omega | (simp <;> omega)) ?_; rintro b3 w6 hb3 E6 hO3; have hs6 := E6.size; refine Gm ?_; refine ⟨trivial, ?_⟩; refine Wha [15]<|Gp rfl ?_ ?_; refine Qf rfl Xs rfl rfl (hO2.ext ((E4.trans E5).trans E6)) hO3 Kf Ka (((E3.trans E4).trans E5).trans E6) Ka ?_; rintro v1 w7 hO4 E7 G1; refine Gm ?_; refine ⟨trivial, ?_⟩; refine WtaV 16 v1 rfl rfl trivial<|Vd Kb ?_; rotate_left; exact Gv; exact Gv; exact Gv
        exact Gv; exact Gv; refine Gp rfl ?_ ?_; refine Wo rfl (Zv Kx rfl (E4.cell hcell))<|Gm ?_; refine ⟨trivial, ?_⟩; refine Wha [3, 7, 12]<|Gp rfl ?_ ?_; refine Wo rfl (Zv Kx rfl (E4.cell hcell))<|Gm ?_; refine ⟨trivial, ?_⟩; refine Zj 4 rfl Kb Kb rfl (fun _ _ => Zn (ps := [(0, .int _ _), (1, .string _)]) (cs := [_, _, _]) Zz rfl rfl) trivial ?_; refine Wha [7, 12]<|Gp rfl ?_ ?_; refine Wo rfl (Zv Kx rfl (E4.cell hcell))<|Gm ?_; refine ⟨trivial, ?_⟩; refine Zj 8 rfl Kb Kb rfl (fun _ _ => Zn (ps := [(0, .int _ _), (1, .string _)]) (cs := [_, _, _]) Zz rfl rfl) trivial ?_; refine Wha [12] ?_
        refine Gp rfl ?_ ?_; refine Gu rfl (Vh (a := .string _) Ga rfl) (Ub _ _ Kd) ?_; rintro _ w5 ⟨rfl, E5⟩; have hs5 := E5.size; refine Gm ?_; refine ⟨trivial, ?_⟩; refine Zj 13 rfl Kb Kb rfl (fun _ _ => Zn (ps := [(0, .int _ _), (2, .int _ _)]) (cs := [_, _, _]) Zz rfl rfl) trivial ?_; refine Wha [14]<|Gp rfl ?_ ?_; refine Ud (a1 := ⟨_, _, _⟩) (a2 := ⟨_, _, _⟩) (a3 := ⟨_, _, _⟩) rfl Xs rfl rfl rfl (by first | assumption | omega | (simp <;> omega)) (by first | assumption | omega | (simp <;> omega)) (by first | assumption | omega | (simp <;> omega)) ?_; rintro b3 w6 hb3 E6 hO3; have hs6 := E6.size; refine Gm ?_; refine ⟨trivial, ?_⟩; refine Wha [15]<|Gp rfl ?_ ?_
        refine Qf rfl Xs rfl rfl (hO2.ext ((E4.trans E5).trans E6)) hO3 Kf Ka (((E3.trans E4).trans E5).trans E6) Ka ?_; rintro v1 w7 hO4 E7 G1; refine Gm ?_; refine ⟨trivial, ?_⟩; refine WtaV 16 v1 rfl rfl trivial<|Vd Kb ?_; rotate_left; exact Gv; exact Gv; exact Gv; refine Gp rfl ?_ ?_; refine Gu rfl (Vh (a := .string _) Ga rfl) (Ub _ _ Kd) ?_; rintro _ w5 ⟨rfl, E5⟩; have hs5 := E5.size; refine Gm ?_; refine ⟨trivial, ?_⟩; refine Zj 13 rfl Kb Kb rfl (fun _ _ => Zn (ps := [(0, .int _ _), (2, .int _ _)]) (cs := [_, _, _]) Zz rfl rfl) trivial ?_; refine Wha [7]<|Gp rfl ?_ ?_; refine Wo rfl (Zv Kx rfl ((E4.trans E5).cell hcell))<|Gm ?_; refine ⟨trivial, ?_⟩
        refine Zj 8 rfl Kb Kb rfl (fun _ _ => Zn (ps := [(0, .int _ _), (1, .string _)]) (cs := [_, _, _]) Zz rfl rfl) trivial ?_; refine Wha [14]<|Gp rfl ?_ ?_; refine Ud (a1 := ⟨_, _, _⟩) (a2 := ⟨_, _, _⟩) (a3 := ⟨_, _, _⟩) rfl Xs rfl rfl rfl (by first | assumption | omega | (simp <;> omega)) (by first | assumption | omega | (simp <;> omega)) (by first | assumption | omega | (simp <;> omega)) ?_; rintro b3 w6 hb3 E6 hO3; have hs6 := E6.size; refine Gm ?_; refine ⟨trivial, ?_⟩; refine Wha [15]<|Gp rfl ?_ ?_; refine Qf rfl Xs rfl rfl (hO2.ext ((E4.trans E5).trans E6)) hO3 Kf Ka (((E3.trans E4).trans E5).trans E6) Ka ?_; rintro v1 w7 hO4 E7 G1; refine Gm ?_
        refine ⟨trivial, ?_⟩; refine WtaV 16 v1 rfl rfl trivial<|Vd Kb ?_; rotate_left; exact Gv; exact Gv; exact Gv; exact Gv; refine Gp rfl ?_ ?_; refine Wo rfl (Zv Kx rfl (E4.cell hcell))<|Gm ?_; refine ⟨trivial, ?_⟩; refine Zj 8 rfl Kb Kb rfl (fun _ _ => Zn (ps := [(0, .int _ _), (1, .string _)]) (cs := [_, _, _]) Zz rfl rfl) trivial ?_; refine Wha [3, 12]<|Gp rfl ?_ ?_; refine Wo rfl (Zv Kx rfl (E4.cell hcell))<|Gm ?_; refine ⟨trivial, ?_⟩; refine Zj 4 rfl Kb Kb rfl (fun _ _ => Zn (ps := [(0, .int _ _), (1, .string _)]) (cs := [_, _, _]) Zz rfl rfl) trivial ?_; refine Wha [12] ?_
        refine Gp rfl ?_ ?_; refine Gu rfl (Vh (a := .string _) Ga rfl) (Ub _ _ Kd) ?_; rintro _ w5 ⟨rfl, E5⟩; have hs5 := E5.size; refine Gm ?_; refine ⟨trivial, ?_⟩; refine Zj 13 rfl Kb Kb rfl (fun _ _ => Zn (ps := [(0, .int _ _), (2, .int _ _)]) (cs := [_, _, _]) Zz rfl rfl) trivial ?_; refine Wha [14]<|Gp rfl ?_ ?_; refine Ud (a1 := ⟨_, _, _⟩) (a2 := ⟨_, _, _⟩) (a3 := ⟨_, _, _⟩) rfl Xs rfl rfl rfl (by first | assumption | omega | (simp <;> omega)) (by first | assumption | omega | (simp <;> omega)) (by first | assumption | omega | (simp <;> omega)) ?_; rintro b3 w6 hb3 E6 hO3; have hs6 := E6.size; refine Gm ?_; refine ⟨trivial, ?_⟩; refine Wha [15]<|Gp rfl ?_ ?_
        refine Qf rfl Xs rfl rfl (hO2.ext ((E4.trans E5).trans E6)) hO3 Kf Ka (((E3.trans E4).trans E5).trans E6) Ka ?_; rintro v1 w7 hO4 E7 G1; refine Gm ?_; refine ⟨trivial, ?_⟩; refine WtaV 16 v1 rfl rfl trivial<|Vd Kb ?_; rotate_left; exact Gv; exact Gv; exact Gv; refine Gp rfl ?_ ?_; refine Gu rfl (Vh (a := .string _) Ga rfl) (Ub _ _ Kd) ?_; rintro _ w5 ⟨rfl, E5⟩; have hs5 := E5.size; refine Gm ?_; refine ⟨trivial, ?_⟩; refine Zj 13 rfl Kb Kb rfl (fun _ _ => Zn (ps := [(0, .int _ _), (2, .int _ _)]) (cs := [_, _, _]) Zz rfl rfl) trivial ?_; refine Wha [3]<|Gp rfl ?_ ?_; refine Wo rfl (Zv Kx rfl ((E4.trans E5).cell hcell))<|Gm ?_; refine ⟨trivial, ?_⟩
        refine Zj 4 rfl Kb Kb rfl (fun _ _ => Zn (ps := [(0, .int _ _), (1, .string _)]) (cs := [_, _, _]) Zz rfl rfl) trivial ?_; refine Wha [14]<|Gp rfl ?_ ?_; refine Ud (a1 := ⟨_, _, _⟩) (a2 := ⟨_, _, _⟩) (a3 := ⟨_, _, _⟩) rfl Xs rfl rfl rfl (by first | assumption | omega | (simp <;> omega)) (by first | assumption | omega | (simp <;> omega)) (by first | assumption | omega | (simp <;> omega)) ?_; rintro b3 w6 hb3 E6 hO3; have hs6 := E6.size; refine Gm ?_; refine ⟨trivial, ?_⟩; refine Wha [15]<|Gp rfl ?_ ?_; refine Qf rfl Xs rfl rfl (hO2.ext ((E4.trans E5).trans E6)) hO3 Kf Ka (((E3.trans E4).trans E5).trans E6) Ka ?_; rintro v1 w7 hO4 E7 G1; refine Gm ?_
        refine ⟨trivial, ?_⟩; refine WtaV 16 v1 rfl rfl trivial<|Vd Kb ?_; rotate_left; exact Gv; exact Gv; exact Gv; exact Gv; refine Gp rfl ?_ ?_; refine Gu rfl (Vh (a := .string _) Ga rfl) (Ub _ _ Kd) ?_; rintro _ w5 ⟨rfl, E5⟩; have hs5 := E5.size; refine Gm ?_; refine ⟨trivial, ?_⟩; refine Zj 13 rfl Kb Kb rfl (fun _ _ => Zn (ps := [(0, .int _ _), (2, .int _ _)]) (cs := [_, _, _]) Zz rfl rfl) trivial ?_; refine Wha [3, 7]<|Gp rfl ?_ ?_; refine Wo rfl (Zv Kx rfl ((E4.trans E5).cell hcell))<|Gm ?_; refine ⟨trivial, ?_⟩; refine Zj 4 rfl Kb Kb rfl (fun _ _ => Zn (ps := [(0, .int _ _), (1, .string _)]) (cs := [_, _, _]) Zz rfl rfl) trivial ?_; refine Wha [7] ?_
        refine Gp rfl ?_ ?_; refine Wo rfl (Zv Kx rfl ((E4.trans E5).cell hcell))<|Gm ?_; refine ⟨trivial, ?_⟩; refine Zj 8 rfl Kb Kb rfl (fun _ _ => Zn (ps := [(0, .int _ _), (1, .string _)]) (cs := [_, _, _]) Zz rfl rfl) trivial ?_; refine Wha [14]<|Gp rfl ?_ ?_; refine Ud (a1 := ⟨_, _, _⟩) (a2 := ⟨_, _, _⟩) (a3 := ⟨_, _, _⟩) rfl Xs rfl rfl rfl (by first | assumption | omega | (simp <;> omega)) (by first | assumption | omega | (simp <;> omega)) (by first | assumption | omega | (simp <;> omega)) ?_; rintro b3 w6 hb3 E6 hO3; have hs6 := E6.size; refine Gm ?_; refine ⟨trivial, ?_⟩; refine Wha [15]<|Gp rfl ?_ ?_
        refine Qf rfl Xs rfl rfl (hO2.ext ((E4.trans E5).trans E6)) hO3 Kf Ka (((E3.trans E4).trans E5).trans E6) Ka ?_; rintro v1 w7 hO4 E7 G1; refine Gm ?_; refine ⟨trivial, ?_⟩; refine WtaV 16 v1 rfl rfl trivial<|Vd Kb ?_; rotate_left; exact Gv; exact Gv; exact Gv; refine Gp rfl ?_ ?_; refine Wo rfl (Zv Kx rfl ((E4.trans E5).cell hcell))<|Gm ?_; refine ⟨trivial, ?_⟩; refine Zj 8 rfl Kb Kb rfl (fun _ _ => Zn (ps := [(0, .int _ _), (1, .string _)]) (cs := [_, _, _]) Zz rfl rfl) trivial ?_; refine Wha [3]<|Gp rfl ?_ ?_; refine Wo rfl (Zv Kx rfl ((E4.trans E5).cell hcell))<|Gm ?_; refine ⟨trivial, ?_⟩
        refine Zj 4 rfl Kb Kb rfl (fun _ _ => Zn (ps := [(0, .int _ _), (1, .string _)]) (cs := [_, _, _]) Zz rfl rfl) trivial ?_; refine Wha [14]<|Gp rfl ?_ ?_; refine Ud (a1 := ⟨_, _, _⟩) (a2 := ⟨_, _, _⟩) (a3 := ⟨_, _, _⟩) rfl Xs rfl rfl rfl (by first | assumption | omega | (simp <;> omega)) (by first | assumption | omega | (simp <;> omega)) (by first | assumption | omega | (simp <;> omega)) ?_; rintro b3 w6 hb3 E6 hO3; have hs6 := E6.size; refine Gm ?_; refine ⟨trivial, ?_⟩; refine Wha [15]<|Gp rfl ?_ ?_; refine Qf rfl Xs rfl rfl (hO2.ext ((E4.trans E5).trans E6)) hO3 Kf Ka (((E3.trans E4).trans E5).trans E6) Ka ?_; rintro v1 w7 hO4 E7 G1; refine Gm ?_
        refine ⟨trivial, ?_⟩; refine WtaV 16 v1 rfl rfl trivial<|Vd Kb ?_; rotate_left; exact Gv; exact Gv; exact Gv; exact Gv; exact Gv; exact Gv
      all_goals exact ⟨_, ⟨rfl, trivial⟩, Kh, Kd, Kd⟩
    · have eL : L = [⟨0, [], 0⟩, ⟨4, [], 0⟩] := by rw [hL, rdL, if_neg h2]; rfl
      focus
        refine Gq rfl (fun h1 => ?_) (fun h1 => ?_); (exfalso; omega); refine Gx ?_
      subst eL
      exact ⟨_, ⟨rfl, trivial⟩, Kh, Kd, Kd⟩
  rintro v ρm w4 ⟨E4, hOL⟩
  have hRL := hOL.read
  clear hOL hO1 hL hz
  focus
    refine Gt<|Gs<|Zr rfl<|Gm<|Gy ?_
  refine Vf [3, 6, 31, 32, 33, 34, 35, 36, 37, 38, 39, 40, 41, 42, 43, 44, 45, 46, 47, 48, 49, 50, 51] (fun (k : Nat) => [(6, .int .i64 (k : Nat))]) (fun k w' => Ext w4 w' ∧ k ≤ L.length ∧ ∀ (j : Nat) (h : j < L.length), j < k → s ≠ [] → dtV L[j] ≠ s) (fun k => L.length - k) 0 Kg ?_ ?_
  · exact ⟨Ext.refl _, Nat.zero_le _, fun j h h2 => Ka⟩
  rintro k ρj w5 ⟨E5, hk, hno⟩
  by_cases hkl : k < L.length
  · have htk := htx k hkl
    have kd : ∀ (w : World), Does Tryz.prog 108 [dv L[k]] w (Ret w (str (dtV L[k]))) := fun w => Rn w _ _ _ htk
    focus
      refine Gt<|Gs<|Gz rfl<|Zh v rfl<|Wo rfl (Xh Ji rfl hRL)<|Zo rfl<|Gm<|Gq rfl (fun h1 => ?_) (fun h1 => ?_); refine Gx<|Gt<|Gy<|Gs<|Yd rfl<|Wo rfl (Vy rfl rfl)<|Xv rfl (fun h2 => ?_) (fun h2 => ?_); refine Zh v rfl<|Gz rfl<|Sc Ji Kr Jb Kr rfl (fun _ => rfl) rfl hRL E5 rfl Kf ?_; rintro _; refine Gu rfl (Vh (a := .agg _) Tryz.call108 rfl) (kd _) ?_; rintro _ w6 ⟨rfl, E6⟩; refine Yd rfl<|Wo rfl (Vo rfl rfl)<|Vw rfl<|Gm<|Gq rfl (fun h3 => ?_) (fun h3 => ?_); refine Gs<|Zh v rfl<|Gz rfl ?_
      refine Sc Ji Kr Jb Kr rfl (fun _ => rfl) rfl hRL exq rfl Kf ?_; rintro _; refine Wo_st3 rfl Kr rfl rfl Ke Ke Ke (hB1.ext (((E2.trans E4).trans E5).trans E6)) Ka ((((E1.trans E2).trans E4).trans E5).trans E6) ?_; rintro w7 E7 hB1 K1 hz1; refine Zc rfl<|Gm<|Zd ?_; rotate_left; refine Gx<|Zl<|Gz rfl<|Va rfl<|Zr rfl<|Gm ?_; rotate_left; refine Gn rfl<|Gn rfl<|Gn rfl<|Gn rfl<|Gn rfl<|Gn rfl<|Gn rfl<|Vc rfl<|Gm<|Za rfl ?_; refine Gx<|Zl<|Gz rfl<|Va rfl<|Zr rfl<|Gm ?_; rotate_left; (exfalso; omega)
    · refine ⟨_, _, _, _, rfl, Kd, ?_, Kd⟩
      exact leaf_some (rdD_eq Kd Kd) rfl
    · refine ⟨(k + 1), Kg, Kh, ?_, ?_⟩
      · refine ⟨by first | assumption | exact E5.trans Kd, Ka, fun j h h2 hs0 => ?_⟩
        rcases Nat.lt_or_ge j k with h3 | h3
        · exact hno j h h3 hs0
        · obtain rfl : j = k := by omega
          assumption
      · omega
    · refine ⟨(k + 1), Kg, Kh, ?_, ?_⟩
      · exact ⟨by first | assumption | exact E5.trans Kd, Ka, fun j h h2 hs0 => absurd Kd hs0⟩
      · omega
  · focus
      refine Gt<|Gs<|Gz rfl<|Zh v rfl<|Wo rfl (Xh Ji rfl hRL)<|Zo rfl<|Gm<|Gq rfl (fun h1 => ?_) (fun h1 => ?_); (exfalso; omega); refine Ve ?_; refine Zi ?_; refine Gs<|Wo rfl (Zn (ps := []) (cs := [_, _, _]) Zz rfl rfl)<|Wo_st3 rfl Kr rfl rfl Ke Ke Ke (hB1.ext ((E2.trans E4).trans E5)) Ka (((E1.trans E2).trans E4).trans E5) ?_; rintro w6 E6 hB1 K1 hz1; refine Zc rfl<|Gm<|Zd ?_
    refine ⟨_, _, _, _, rfl, Kd, ?_, Kd⟩
    refine leaf_none ?_ rfl
    cases hr : rdD s with
    | none => rfl
    | some a =>
      obtain ⟨j, hj, e⟩ := List.mem_iff_getElem.1 (hall a hr)
      have h9 := Sh hr
      exact absurd (e ▸ h9.1) (hno j hj Ka h9.2)
end Go.Proofs.YtbgpppaljpngmaaGreatDoor
set_option linter.unusedVariables false
set_option linter.unusedSimpArgs false
namespace Go.Hs
section
variable {e : TypeId} {lo : Nat} {w w' w0 : World} {v : Value} {l m : List Deed} {b n c k : Nat} {u : Value}
theorem OD.wrote {b' : Nat} (h : OD e lo w v l) (K : ∀ k, k ≠ b' → w'.heap[k]? = w.heap[k]?) (hb : v.ownBlock ≠ some b') : OD e lo w' v l := by
  refine ⟨?_, h.2⟩
  rcases h.1.2 with ⟨rfl, h0⟩ | ⟨g, cap, cur, rfl, hb2, hg, hnc, hcm, hcs, ht⟩
  · exact ⟨h.1.1, .inl ⟨rfl, h0⟩⟩
  · exact ⟨h.1.1, .inr ⟨g, cap, cur, rfl, hb2, (K g (fun e => hb (by rw [← e]; rfl))).trans hg, hnc, hcm, hcs, ht⟩⟩
end
section
variable {P : Program} {N : Env → World → Prop} {ρ : Env} {w w0 : World} {all : Array Oper} {rest : List Oper} {d : Nat} {ty t el e : TypeId} {pos : String} {after : Array Edge} {g : Option (Nat × Bool)} {x y : Operand} {l : List Deed} {lo b n c k : Nat} {nn : Nat}
theorem Wq_getD {M : Env → Prop} {d2 : Nat} {tl ty2 : TypeId} {pos2 : String} {after2 : Array Edge} {g2 : Option (Nat × Bool)} {v : Value} (ht : P.underlying t = some (.slice el)) (hs : ∀ w, (sizeOf el).run P w = .ok 3 w) (hta : ∀ w, (isAgg tl).run P w = .ok true w) (hts : ∀ w, (sizeOf tl).run P w = .ok 3 w)
    (hw : wantedE all ⟨some d, .indexAddr t x y, ty, pos, after, g⟩ ρ = true) (hw2 : ∀ v, wantedE all ⟨some d2, .load tl (.tmp d), ty2, pos2, after2, g2⟩ (upd ρ d v) = true)
    (hx : evalE ρ x = v) (hR : ESD w0 v l) (hE : Ext w0 w) (hy : evalE ρ y = .int .i64 (k : Int)) (hk : k < l.length)
    (hk' : ∀ ad, Wq P nn all w rest M (upd (upd ρ d (.pointer (some ad))) d2 (dv l[k]))) : Wq P nn all w (⟨some d, .indexAddr t x y, ty, pos, after, g⟩ :: ⟨some d2, .load tl (.tmp d), ty2, pos2, after2, g2⟩ :: rest) M ρ := by
  obtain ⟨a, c, rfl, h1, h2⟩ := hR
  rcases h2 with rfl | ⟨b, o, rfl, h⟩
  · cases hk
  have hD := (h k hk).ext hE
  refine Ya hw (fun w' _ => Sn ht hs hx hy hk) ?_
  refine Ya (hw2 _) (fun w' hw' => Tm hta hts (by simp [evalE, upd]) (hD.ext hw').1 (hD.ext hw').2.1 (hD.ext hw').2.2.1) ?_
  exact hk' _
theorem made3 (m : Nat) : madeCells (Value.agg #[.int .i64 0, str [], .int .i64 0]).cells (m * 3) = (dcs (List.replicate m ⟨0, [], 0⟩)).toArray := by
  apply Array.ext'
  unfold madeCells
  simp only [Value.cells, Array.toList_map, Array.toList_range]
  induction m with
  | zero => rfl
  | succ m ih =>
    rw [show (m + 1) * 3 = m * 3 + 1 + 1 + 1 by omega, List.range_succ, List.range_succ, List.range_succ, List.replicate_succ', dcs_app]
    simp only [List.map_append, List.map_cons, List.map_nil, List.append_assoc, List.cons_append, List.nil_append]
    rw [ih]
    have e0 : m * 3 % 3 = 0 := Ka
    have e1 : (m * 3 + 1) % 3 = 1 := Ka
    have e2 : (m * 3 + 1 + 1) % 3 = 2 := Ka
    simp [dcs, e0, e1, e2]
theorem Wo_makeD {kk : IntKind} {m : Nat} (hw : wantedE all ⟨some d, .makeSlice t x x, ty, pos, after, g⟩ ρ = true) (hel : ElD P t e) (hx : evalE ρ x = .int kk (m : Int)) (ha : m ≤ 1099511627776)
    (hk : ∀ b w1, w.heap.size ≤ b → b < w1.heap.size → Ext w w1 → OD e w.heap.size w1 (.slice (some ⟨b, 0, none⟩) m m) (List.replicate m ⟨0, [], 0⟩) → Wops P nn all rest N (upd ρ d (.slice (some ⟨b, 0, none⟩) m m)) w1) :
    Wops P nn all (⟨some d, .makeSlice t x x, ty, pos, after, g⟩ :: rest) N ρ w := by
  obtain ⟨i, hi, hz, hs, hby⟩ := hel.info
  have hm : ((i.bytes : Int) * (m : Int)) ≤ 281474976710656 := by
    have : i.bytes * m ≤ 64 * 1099511627776 := Nat.mul_le_mul hby Ka
    have h2 : ((i.bytes * m : Nat) : Int) ≤ 70368744177664 := Ka
    have h3 : ((i.bytes * m : Nat) : Int) = (i.bytes : Int) * (m : Int) := Int.natCast_mul _ _
    rw [← h3]; omega
  have hr := run_make (P := P) w t e i _ hel.und hi hz kk kk (m : Int) (m : Int) Ka (Int.le_refl _) hm Ka
  rw [hs, Int.toNat_natCast, made3] at hr
  refine Qu (v := .slice (some ⟨w.heap.size, 0, none⟩) m m) (w' := w.alloc (.cells (dcs (List.replicate m ⟨0, [], 0⟩)).toArray e)) hw ?_ (hk _ _ (Nat.le_refl _) Ki ((Ext.refl w).alloc _)
    (OD.blk (heap_alloc_new w _) (Nat.le_refl _) Ki (by unfold maxLen; omega) (fun a h => by rw [List.eq_of_mem_replicate h]; simp)))
  simp only [execOp, Sem.run_bind, Sem.run_pure, Result.andThen_ok, hx, hr]
end
def RetODZ (w : World) (e : TypeId) (l : List Deed) (z : Int) : Value → World → Prop := fun v w' => ∃ u, v = .tuple #[u, .int .i64 z] ∧ Ext w w' ∧ OD e w.heap.size w' u l
end Go.Hs
namespace Go.Proofs.YtbgpppaljpngmaaGreatDoor
open Go.Hs
set_option maxRecDepth 10000
set_option maxHeartbeats 4000000
set_option linter.unusedVariables false
set_option linter.unusedSimpArgs false
theorem jtV_step {l : List Deed} {k : Nat} (hk : k < l.length) : (l.take (k + 1)).flatMap (fun a => dtV a ++ [10]) = (l.take k).flatMap (fun a => dtV a ++ [10]) ++ dtV l[k] ++ [10] := by
  rw [List.take_succ_eq_append_getElem hk, List.flatMap_append]; simp
theorem jtV_no {l : List Deed} {k : Nat} (hk : k < l.length) (h : dtV l[k] = []) : jtV l = [] := by
  unfold jtV
  exact if_neg fun h2 => h2 _ (List.getElem_mem hk) h
theorem jtV_yes {l : List Deed} {k : Nat} (hk : l.length ≤ k) (h : ∀ a ∈ l.take k, dtV a ≠ []) : jtV l = (l.take k).flatMap (fun a => dtV a ++ [10]) := by
  rw [List.take_of_length_le hk] at h ⊢
  exact if_pos h
theorem spec_JournalText_ok (w : World) (v : Value) (l : List Deed) (h : ESD w v l) (hl : l.length ≤ 1048576) (hx : ∀ a ∈ l, a.text.length ≤ 1048576) :
    Does Tryz.prog 99 [v] w (Ret w (str (jtV l))) := by
  refine Zy Tryz.func99 rfl Tryz.results99 Tryz.ntmps99 rfl ?_
  focus
    refine Gs<|Yo rfl<|Gm<|Gs<|Yo rfl<|Gm<|Gt<|Gs<|Zr rfl<|Gm<|Gy ?_
  refine Vf [2, 3, 4, 5, 6, 7, 8, 9, 10, 11, 12, 13, 14, 15, 16, 17, 18, 19, 20, 21, 22, 23, 24] (fun ((k, o) : Nat × List UInt8) => [(4, .int .i64 (k : Nat)), (3, str o)]) (fun (k, o) w' => Ext w w' ∧ k ≤ l.length ∧ o.length ≤ 211 * k ∧ o = (l.take k).flatMap (fun a => dtV a ++ [10]) ∧ ∀ a ∈ l.take k, dtV a ≠ []) (fun x => l.length - x.1) (0, []) Kg ?_ ?_
  · exact ⟨by first | assumption | exact Ext.refl _, Nat.zero_le _, Ki, Ki, Ki⟩
  rintro ⟨k, o⟩ ρj w2 ⟨E2, hk, ho, heq, hne⟩
  by_cases hkl : k < l.length
  · have hxk := hx l[k] (List.getElem_mem hkl)
    have hdl := dtV_len l[k]
    have kd : ∀ (w : World), Does Tryz.prog 108 [dv l[k]] w (Ret w (str (dtV l[k]))) := fun w => Rn w _ _ _ hxk
    focus
      refine Gt<|Gs<|Gz rfl<|Zh v rfl<|Wo rfl (Xh Ji rfl h)<|Zo rfl<|Gm<|Gq rfl (fun h1 => ?_) (fun h1 => ?_); refine Gx<|Gt<|Gy<|Gt<|Gs<|Zh v rfl<|Gz rfl<|Sc Ji Kr Jb Kr rfl (fun _ => rfl) rfl h E2 rfl Kf ?_; rintro _; refine Gu rfl (Vh (a := .agg _) Tryz.call108 rfl) (kd _) ?_; rintro _ w1 ⟨rfl, E1⟩; refine Wo rfl (Vo rfl rfl)<|Gm<|Gq rfl (fun h2 => ?_) (fun h2 => ?_); refine Gs<|Yo rfl<|Gm<|Zd ?_; refine Zk (v := .string _) rfl ?_; refine ⟨congrArg str ?_, exq⟩; rotate_left; refine Gx<|Zl<|Yd rfl<|Zh v rfl<|Gz rfl ?_
      refine Sc Ji Kr Jb Kr rfl (fun _ => rfl) rfl h exq rfl Kf ?_; rintro _; refine Gu rfl (Vh (a := .agg _) Tryz.call108 rfl) (kd _) ?_; rintro _ w3 ⟨rfl, E3⟩; refine Wo rfl (Yq rfl rfl Ka) ?_; refine Wo rfl (Yq rfl rfl (by simp <;> omega)) ?_; refine Yo rfl<|Gm<|Zl<|Gz rfl<|Va rfl<|Zr rfl<|Gm ?_; rotate_left; (exfalso; omega)
    · rw [jtV_no hkl Kd]
    · refine ⟨((k + 1, o ++ dtV l[k] ++ [10])), Kg, Kh, ?_, ?_⟩
      · refine ⟨by first | assumption | exact E2.trans (by first | assumption | exact Ext.trans Kd Kd), Ka, by simp; omega, by rw [jtV_step hkl, heq], fun a ha => ?_⟩
        rw [List.take_succ_eq_append_getElem hkl] at ha
        rcases List.mem_append.1 ha with ha | ha
        · exact hne a ha
        · obtain rfl := List.mem_singleton.1 ha; assumption
      · simp only; omega
  · focus
      refine Gt<|Gs<|Gz rfl<|Zh v rfl<|Wo rfl (Xh Ji rfl h)<|Zo rfl<|Gm<|Gq rfl (fun h1 => ?_) (fun h1 => ?_); (exfalso; omega); refine Ve ?_; refine Zi ?_; refine Gs<|Yd rfl<|Yo rfl<|Gm<|Zd ?_; refine Zk (v := .string _) rfl ?_; refine ⟨congrArg str ?_, E2⟩
    rw [jtV_yes Ka hne, heq]
theorem impl_JournalText_ok (w : World) (v : Value) (l : List Deed) (hM : EMx gMx w (.bool true) ()) (h : ESD w v l) (hl : l.length ≤ 1048576) (hx : ∀ a ∈ l, a.text.length ≤ 1048576) :
    Does Tryz.prog 54 [v] w (Ret w (str (jtV l))) := by
  refine Zy Tryz.func54 rfl Tryz.results54 Tryz.ntmps54 rfl ?_
  focus
    refine Gs<|Yo rfl<|Gm<|Gs<|Yo rfl<|Gm<|Gt<|Gs<|Zh v rfl<|Wo rfl (Xh Ji rfl h)<|Gz rfl<|Gm<|Gy ?_
  refine Vf [2, 3, 5, 6, 9, 10, 11, 12, 13, 14, 15, 16, 17, 18, 19, 20, 21] (fun ((k, o) : Nat × List UInt8) => [(9, .int .i64 (k : Nat)), (3, str o)]) (fun (k, o) w' => Ext w w' ∧ k ≤ l.length ∧ o.length ≤ 211 * k ∧ o = (l.take k).flatMap (fun a => dtV a ++ [10]) ∧ ∀ a ∈ l.take k, dtV a ≠ []) (fun x => l.length - x.1) (0, []) Kg ?_ ?_
  · exact ⟨by first | assumption | exact Ext.refl _, Nat.zero_le _, Ki, Ki, Ki⟩
  rintro ⟨k, o⟩ ρj w2 ⟨E2, hk, ho, heq, hne⟩
  by_cases hkl : k < l.length
  · have hxk := hx l[k] (List.getElem_mem hkl)
    have hdl := dtV_len l[k]
    have kd : ∀ (w : World), EMx gMx w (.bool true) () → Does Tryz.prog 104 [dv l[k]] w (Ret w (str (dtV l[k]))) := fun w hM => Qn w _ _ _ hM hxk
    focus
      have szE2 := E2.size; refine Gs<|Zo rfl<|Gm<|Gt<|Gq rfl (fun h1 => ?_) (fun h1 => ?_); refine Gx<|Gt<|Gy<|Gs<|Sc Ji Kr Jb Kr rfl (fun _ => rfl) rfl h E2 rfl Kf ?_; rintro _; refine Yi rfl Zz ?_; rintro b1 w1 hb1 E1 hB1; refine Yx Kr hB1 rfl (E2.trans E1) ?_; rintro w3 E3 hB1 K1 hz1; have E4 := E1.wroteAt exq E3 K1 hz1 Ka; refine Gm<|Gs<|Xq Jb Kr hB1 rfl<|Gu rfl (Vh (a := .agg _) Jq rfl) (kd _ ((Mono.mono E3 hM))) ?_; rintro _ w4 ⟨rfl, E5⟩; refine Yo rfl<|Gm<|Gt<|Gs<|Yd rfl<|Wo rfl (Vo rfl rfl)<|Gm<|Gq rfl (fun h2 => ?_) (fun h2 => ?_); refine Gt ?_
      refine Zl<|Yo rfl<|Gm<|Zd ?_; refine Zk (v := .string _) rfl ?_; refine ⟨congrArg str ?_, exq⟩; rotate_left; refine Gx<|Zl<|Yd rfl<|Yd rfl<|Wo rfl (Yq rfl rfl (by simp <;> omega)) ?_; refine Wo rfl (Yq rfl rfl (by simp <;> omega)) ?_; refine Yo rfl<|Gm<|Zl<|Va rfl<|Gz rfl<|Gm ?_; rotate_left; (exfalso; omega)
    · rw [jtV_no hkl Kd]
    · refine ⟨((k + 1, o ++ (dtV l[k] ++ [10]))), Kg, Kh, ?_, ?_⟩
      · refine ⟨by first | assumption | exact E2.trans (by first | assumption | exact Ext.trans Kd Kd), Ka, by simp; omega, by rw [jtV_step hkl, heq]; simp, fun a ha => ?_⟩
        rw [List.take_succ_eq_append_getElem hkl] at ha
        rcases List.mem_append.1 ha with ha | ha
        · exact hne a ha
        · obtain rfl := List.mem_singleton.1 ha; assumption
      · simp only; omega
  · focus
      refine Gs<|Zo rfl<|Gm<|Gt<|Gq rfl (fun h1 => ?_) (fun h1 => ?_); (exfalso; omega); refine Ve ?_; refine Zi ?_; refine Gs<|Yd rfl<|Yo rfl<|Gm<|Zd ?_; refine Zk (v := .string _) rfl ?_; refine ⟨congrArg str ?_, E2⟩
    rw [jtV_yes Ka hne, heq]
end Go.Proofs.YtbgpppaljpngmaaGreatDoor
namespace Go.Proofs.YtbgpppaljpngmaaGreatDoor
open Go.Hs
set_option maxRecDepth 10000
set_option maxHeartbeats 4000000
set_option linter.unusedVariables false
set_option linter.unusedSimpArgs false
theorem rj_stop {s : List UInt8} {f : Nat} {L : List Deed} (h : rjV s = (L ++ (rjV (s.drop f)).1, f + (rjV (s.drop f)).2)) (h2 : (rjV (s.drop f)) = ([], 0)) : L = (rjV s).1 ∧ ((f : Nat) : Int) = ((rjV s).2 : Nat) := by
  rw [h2] at h
  rw [h]; simp
theorem rj_next {s x r : List UInt8} {f : Nat} {L : List Deed} {a : Deed} (h : rjV s = (L ++ (rjV (s.drop f)).1, f + (rjV (s.drop f)).2)) (h2 : s.drop f = x ++ 10 :: r) (hx : (10 : UInt8) ∉ x) (hr : rdD x = some a) :
    rjV s = ((L ++ [a]) ++ (rjV (s.drop (f + x.length + 1))).1, (f + x.length + 1) + (rjV (s.drop (f + x.length + 1))).2) := by
  have e : s.drop (f + x.length + 1) = r := by
    rw [show f + x.length + 1 = f + (x.length + 1) by omega, ← List.drop_drop, h2, show x ++ 10 :: r = (x ++ [10]) ++ r by simp, List.drop_append_of_le_length Ki]
    simp
  rw [h2, rjV_line hx, hr] at h
  simp only at h
  rw [e, h, List.append_assoc]
  refine Prod.ext rfl ?_
  simp only; omega
theorem rj_none {x r : List UInt8} (hx : (10 : UInt8) ∉ x) (hr : rdD x = none) : rjV (x ++ 10 :: r) = ([], 0) := by rw [rjV_line hx, hr]
theorem rdD_text {s : List UInt8} {a : Deed} (h : rdD s = some a) {n : Nat} (hs : s.length ≤ n) : a.text.length ≤ n := by
  have h1 := (Sh h).1
  have ht := rdD_told h
  cases ht with
  | single => simp
  | back => simp
  | into d hd => simp
  | add p hp => rw [Ro hp] at h1; rw [← h1] at hs; simp at hs ⊢; omega
  | drop p hp => rw [Qr hp] at h1; rw [← h1] at hs; simp at hs ⊢; omega
theorem spec_ReadJournal_ok (w : World) (s : List UInt8) (hs : s.length ≤ 1048576) :
    Does Tryz.prog 51 [str s] w (RetODZ w 48 (rjV s).1 (rjV s).2) := by
  have kd : ∀ (w : World) (x : List UInt8), x.length ≤ 1048576 → Does Tryz.prog 61 [str x] w (Ret w (.tuple #[dv ((rdD x).getD ⟨0, [], 0⟩), .bool (rdD x).isSome])) := fun w x hx => spec_ReadDeed_ok w x hx
  refine Ul Tryz.func51 rfl Tryz.results51 Tryz.ntmps51 rfl ?_
  focus
    refine Gs<|Vr rfl<|Zr rfl<|Gm<|Gs<|Th  rfl Xs   ?_; rintro b1 w1 hb1 E1 hO1; refine Vr rfl<|Gm<|Gs<|Zr rfl<|Gm<|Gt<|Gs<|Zr rfl<|Gm<|Gy ?_
  refine Vf [2, 3, 4, 5, 6, 7, 8, 10, 11, 12, 13, 14, 15, 16, 17, 18, 19, 20, 21, 22, 23, 24, 25, 26, 27, 28, 29, 30, 31, 32, 33, 34, 35, 36, 37] (fun ((k, f, L, v) : Nat × Nat × List Deed × Value) => [(6, .int .i64 (k : Nat)), (5, .int .i64 (f : Nat)), (4, v)]) (fun (k, f, L, v) w' => Ext w w' ∧ k ≤ s.length ∧ f ≤ k ∧ L.length ≤ f ∧ OD 48 w.heap.size w' v L ∧ (10 : UInt8) ∉ (s.drop f).take (k - f) ∧ rjV s = (L ++ (rjV (s.drop f)).1, f + (rjV (s.drop f)).2)) (fun x => s.length - x.1) (0, 0, [], _) Kg ?_ ?_
  · exact ⟨Kd, Nat.zero_le _, Nat.le_refl _, Ki, hO1, Ki, Ki⟩
  clear hO1
  rintro ⟨k, f, L, v⟩ ρj w2 ⟨E2, hk, hf, hLf, hO1, h10, hrj⟩
  by_cases hkl : k < s.length
  · have hg : s.getD k 0 = s[k] := Vg hkl
    by_cases hc : s[k] = 10
    · have hd : s.drop f = (s.drop f).take (k - f) ++ 10 :: s.drop (k + 1) := by
        have e1 := (List.take_append_drop (k - f) (s.drop f)).symm
        rw [List.drop_drop, show f + (k - f) = k by omega, List.drop_eq_getElem_cons hkl, hc] at e1
        exact e1
      have hxl : ((s.drop f).take (k - f)).length = k - f := by simp; omega
      obtain ⟨x, hx⟩ : ∃ x, x = (s.drop f).take (k - f) := ⟨_, rfl⟩
      rw [← hx] at hd hxl h10
      have kx : ∀ (w : World), Does Tryz.prog 61 [str ((s.drop f).take (k - f))] w (Ret w (.tuple #[dv ((rdD x).getD ⟨0, [], 0⟩), .bool (rdD x).isSome])) := fun w => hx ▸ kd w x Ka
      have hcz : ((s.getD k 0).toNat : Int) = 10 := by rw [hg, hc]; rfl
      clear kd
      cases hr : rdD x with
      | none =>
        rw [hr] at kx
        focus
          have szE2 := E2.size; refine Gt<|Gs<|Gz rfl<|Yd rfl<|Wo rfl (Yh Je rfl)<|Zo rfl<|Gm<|Gq rfl (fun h1 => ?_) (fun h1 => ?_); refine Gx<|Gt<|Gy<|Gt<|Zl<|Yd rfl<|Gz rfl<|Wo rfl (Yl Je rfl rfl Ka) ?_; refine Zs rfl<|Gm<|Gq rfl (fun h2 => ?_) (fun h2 => ?_); refine Gs<|Yd rfl<|Gz rfl<|Gz rfl<|Wo rfl (Sw Je rfl rfl rfl Ka) ?_; refine Gu rfl (Vh (a := .string _) Tryz.call61 rfl) (kx _) ?_; rintro _ w3 ⟨rfl, E3⟩; have hs2 := E3.size; refine Xf rfl<|To rfl<|Yz rfl<|Yi rfl Zz ?_; rintro b2 w4 hb2 E4 hB1; refine Yx Kr hB1 rfl ((E2.trans E3).trans E4) ?_; rintro w5 E5 hB1 K1 hz1; have E6 := (E3.trans E4).wroteAt exq E5 K1 hz1 Ka
          refine Zc rfl<|Gm<|Gt<|Gs<|Vq rfl<|Vt rfl<|Gm<|Vv rfl (fun h3 => ?_) (fun h3 => ?_); refine Gs<|Zh v rfl<|Gz rfl<|Vn v rfl<|Zr rfl<|Gm<|Zd ?_; refine Zk (v := .tuple #[v, .int _ _]) rfl ?_; rotate_left; contradiction; contradiction; (exfalso; omega)
        obtain ⟨e1, e2⟩ := rj_stop hrj (by rw [hd]; exact rj_none h10 hr)
        refine ⟨v, by rw [e2], E2.trans (by first | assumption | exact Ext.trans Kd Kd), ?_⟩
        rw [← e1]; exact hO1.ext (by first | assumption | exact Ext.trans Kd Kd)
      | some a =>
        rw [hr] at kx
        have hat : a.text.length ≤ 9223372036854775807 := rdD_text hr Ka
        focus
          have szE2 := E2.size; refine Gt<|Gs<|Gz rfl<|Yd rfl<|Wo rfl (Yh Je rfl)<|Zo rfl<|Gm<|Gq rfl (fun h1 => ?_) (fun h1 => ?_); refine Gx<|Gt<|Gy<|Gt<|Zl<|Yd rfl<|Gz rfl<|Wo rfl (Yl Je rfl rfl Ka) ?_; refine Zs rfl<|Gm<|Gq rfl (fun h2 => ?_) (fun h2 => ?_); refine Gs<|Yd rfl<|Gz rfl<|Gz rfl<|Wo rfl (Sw Je rfl rfl rfl Ka) ?_; refine Gu rfl (Vh (a := .string _) Tryz.call61 rfl) (kx _) ?_; rintro _ w3 ⟨rfl, E3⟩; have hs2 := E3.size; refine Xf rfl<|To rfl<|Yz rfl<|Yi rfl Zz ?_; rintro b2 w4 hb2 E4 hB1; have hlb2 := hB1.lt; refine Yx Kr hB1 rfl ((E2.trans E3).trans E4) ?_; rintro w5 E5 hB1 K1 hz1
          have E6 := (E3.trans E4).wroteAt exq E5 K1 hz1 Ka; refine Zc rfl<|Gm<|Gt<|Gs<|Vq rfl<|Vt rfl<|Gm<|Vv rfl (fun h3 => ?_) (fun h3 => ?_); contradiction; refine Gx<|Gs<|Zh v rfl<|Xq Jb Kr hB1 rfl<|Tn (a1 := ⟨_, _, _⟩) rfl Xs rfl (by first | assumption | omega | (simp <;> omega)) ?_; rintro b3 w6 hb3 E8 hO2; have hs4 := E8.size; refine Qf rfl Xs rfl rfl (hO1.ext (E6.trans E8)) hO2 Kf Ka (E5.trans E8) Ka ?_; rintro v1 w7 hO3 E9 G1; refine Vn v1 rfl<|Gm<|Zl<|Gz rfl<|Va rfl<|Zr rfl<|Gm<|Zl<|Gz rfl<|Va rfl<|Zr rfl<|Gm ?_; rotate_left; contradiction; (exfalso; omega)
        refine ⟨((k + 1, k + 1, L ++ [a], v1)), Kg, Kh, ?_, ?_⟩
        · have e := rj_next hrj hd h10 hr
          rw [show f + x.length + 1 = k + 1 by omega] at e
          refine ⟨Kd, Ka, Ka, by simp; omega, Kd, Ki, e⟩
        · simp only; omega
    · have hcz : ¬ ((s.getD k 0).toNat : Int) = 10 := by
        rw [hg]; intro h; exact hc (UInt8.toNat.inj (show s[k].toNat = 10 by omega))
      focus
        refine Gt<|Gs<|Gz rfl<|Yd rfl<|Wo rfl (Yh Je rfl)<|Zo rfl<|Gm<|Gq rfl (fun h1 => ?_) (fun h1 => ?_); refine Gx<|Gt<|Gy<|Gt<|Zl<|Yd rfl<|Gz rfl<|Wo rfl (Yl Je rfl rfl Ka) ?_; refine Zs rfl<|Gm<|Gq rfl (fun h2 => ?_) (fun h2 => ?_); contradiction; refine Gx<|Zl<|Gz rfl<|Va rfl<|Zr rfl<|Gm ?_; rotate_left; (exfalso; omega)
      refine ⟨((k + 1, f, L, v)), Kg, Kh, ?_, ?_⟩
      · refine ⟨Kd, Ka, Ka, Ka, Kd, ?_, hrj⟩
        have e : (s.drop f).take (k + 1 - f) = (s.drop f).take (k - f) ++ [s[k]] := by
          rw [show k + 1 - f = (k - f) + 1 by omega, List.take_succ_eq_append_getElem (by simp; omega), List.getElem_drop]
          simp only [show f + (k - f) = k by omega]
        rw [e]
        intro hm
        rcases List.mem_append.1 hm with hm | hm
        · exact h10 hm
        · exact hc (List.mem_singleton.1 hm).symm
      · simp only; omega
  · focus
      refine Gt<|Gs<|Gz rfl<|Yd rfl<|Wo rfl (Yh Je rfl)<|Zo rfl<|Gm<|Gq rfl (fun h1 => ?_) (fun h1 => ?_); (exfalso; omega); refine Ve ?_; refine Zi ?_; refine Gs<|Zh v rfl<|Gz rfl<|Vn v rfl<|Zr rfl<|Gm<|Zd ?_; refine Zk (v := .tuple #[v, .int _ _]) rfl ?_
    obtain rfl : k = s.length := Ka
    have h9 : (10 : UInt8) ∉ s.drop f := by rwa [List.take_of_length_le Ki] at h10
    obtain ⟨e1, e2⟩ := rj_stop hrj (Su h9)
    refine ⟨v, by rw [e2], Kd, ?_⟩
    rw [← e1]; exact hO1
theorem Sa (w : World) (s : List UInt8) (hM : EMx gMx w (.bool true) ()) (hs : s.length ≤ 1048576) :
    Does Tryz.prog 50 [str s] w (RetODZ w 48 (rjV s).1 (rjV s).2) := by
  have kd : ∀ (w : World) (x : List UInt8), EMx gMx w (.bool true) () → x.length ≤ 1048576 → Does Tryz.prog 103 [str x] w (Ret w (.tuple #[dv ((rdD x).getD ⟨0, [], 0⟩), .bool (rdD x).isSome])) := fun w x hM hx => Te w x hM hx
  refine Ul Tryz.func50 rfl Tryz.results50 Tryz.ntmps50 rfl ?_
  focus
    refine Gs<|Vr rfl<|Zr rfl<|Gm<|Gs<|Th  rfl Xs   ?_; rintro b1 w1 hb1 E1 hO1; refine Vr rfl<|Gm<|Gs<|Zr rfl<|Gm<|Gy ?_
  refine Vf [2, 3, 4, 5, 6, 7, 8, 9, 10, 12, 13, 14, 15, 16, 17, 18, 19, 20, 21, 22, 23, 24, 25, 26, 27, 28, 29, 30, 31, 32, 33, 34, 35, 36, 37, 38, 39, 40, 41] (fun ((f, L, v) : Nat × List Deed × Value) => [(5, .int .i64 (f : Nat)), (4, v)]) (fun (f, L, v) w' => Ext w w' ∧ f ≤ s.length ∧ L.length ≤ f ∧ OD 48 w.heap.size w' v L ∧ rjV s = (L ++ (rjV (s.drop f)).1, f + (rjV (s.drop f)).2)) (fun x => s.length - x.1) (0, [], _) Kg ?_ ?_
  · exact ⟨Kd, Nat.zero_le _, Ki, hO1, Ki⟩
  clear hO1
  rintro ⟨f, L, v⟩ ρj w2 ⟨E2, hf, hLf, hO1, hrj⟩
  have hdl : (s.drop f).length ≤ 1048576 := by simp; omega
  rcases line_ind (s.drop f) with h10 | ⟨x, r, hd, h10⟩
  · have kc : ∀ (w : World), EMx gMx w (.bool true) () → Does Tryz.prog 102 [str (s.drop f), str [10]] w (Ret w (.tuple #[str (s.drop f), str [], .bool false])) := fun w hM => by
      have := Cut_ok w (s.drop f) 10 hM hdl
      rw [cutF_no h10] at this; exact this
    have kx : ∀ (w : World), EMx gMx w (.bool true) () → Does Tryz.prog 103 [str (s.drop f)] w (Ret w (.tuple #[dv ((rdD (s.drop f)).getD ⟨0, [], 0⟩), .bool (rdD (s.drop f)).isSome])) := fun w hM => kd w _ hM hdl
    clear kd
    focus
      have szE2 := E2.size; refine Gy<|Gs<|Yd rfl<|Gz rfl<|Wo rfl (Uu Je rfl rfl Ka) ?_; refine Gu rfl (Vb (a := .string _) (b := .string _) Tryz.call102 rfl rfl) (kc _ ((Mono.mono E2 hM))) ?_; rintro _ w3 ⟨rfl, E3⟩; have hs2 := E3.size; refine Xf rfl<|WsxT rfl<|WsxT rfl<|Yz rfl<|Yo rfl<|Yo rfl<|Zc rfl<|Gm<|Gs<|Yd rfl<|Gu rfl (Vh (a := .string _) Tryz.call103 rfl) (kx _ ((Mono.mono exq hM))) ?_; rintro _ w4 ⟨rfl, E4⟩; have hs3 := E4.size; refine Xf rfl<|To rfl<|Yz rfl<|Yi rfl Zz ?_; rintro b2 w5 hb2 E5 hB1; refine Wo_st3 rfl Kr rfl rfl Ke Ke Ke hB1 Ka (((E2.trans E3).trans E4).trans E5) ?_
      rintro w6 E6 hB1 K1 hz1; have E7 := ((E3.trans E4).trans E5).wroteAt exq E6 K1 hz1 Ka; refine Zc rfl<|Gm<|Gt<|Gs<|Vq rfl<|Vt rfl<|Vx rfl (Zt (v := .bool _) rfl) (fun h1 => ?_) (fun h1 => ?_); refine Gn rfl<|Gn rfl<|Vw rfl<|Gm<|Vj rfl ?_; refine Gs<|Zh v rfl<|Gz rfl<|Vn v rfl<|Zr rfl<|Gm<|Zd ?_; refine Zk (v := .tuple #[v, .int _ _]) rfl ?_; rotate_left; contradiction
    obtain ⟨e1, e2⟩ := rj_stop hrj (Su h10)
    refine ⟨v, by rw [e2], E2.trans (by first | assumption | exact Ext.trans Kd Kd | exact Ext.trans Kd (Ext.trans Kd Kd)), ?_⟩
    rw [← e1]; exact hO1.ext (by first | assumption | exact Ext.trans Kd Kd | exact Ext.trans Kd (Ext.trans Kd Kd))
  · have hxl : f + x.length + 1 ≤ s.length := by
      have := congrArg List.length hd
      simp at this; omega
    have kc : ∀ (w : World), EMx gMx w (.bool true) () → Does Tryz.prog 102 [str (s.drop f), str [10]] w (Ret w (.tuple #[str x, str r, .bool true])) := fun w hM => by
      have := Cut_ok w (s.drop f) 10 hM hdl
      rw [hd, cutF_at h10] at this
      rw [hd]; exact this
    have kx : ∀ (w : World), EMx gMx w (.bool true) () → Does Tryz.prog 103 [str x] w (Ret w (.tuple #[dv ((rdD x).getD ⟨0, [], 0⟩), .bool (rdD x).isSome])) := fun w hM => kd w _ hM Ka
    clear kd
    cases hr : rdD x with
    | none =>
      rw [hr] at kx
      focus
        have szE2 := E2.size; refine Gy<|Gs<|Yd rfl<|Gz rfl<|Wo rfl (Uu Je rfl rfl Ka) ?_; refine Gu rfl (Vb (a := .string _) (b := .string _) Tryz.call102 rfl rfl) (kc _ ((Mono.mono E2 hM))) ?_; rintro _ w3 ⟨rfl, E3⟩; have hs2 := E3.size; refine Xf rfl<|WsxT rfl<|WsxT rfl<|Yz rfl<|Yo rfl<|Yo rfl<|Zc rfl<|Gm<|Gs<|Yd rfl<|Gu rfl (Vh (a := .string _) Tryz.call103 rfl) (kx _ ((Mono.mono exq hM))) ?_; rintro _ w4 ⟨rfl, E4⟩; have hs3 := E4.size; refine Xf rfl<|To rfl<|Yz rfl<|Yi rfl Zz ?_; rintro b2 w5 hb2 E5 hB1; refine Wo_st3 rfl Kr rfl rfl Ke Ke Ke hB1 Ka (((E2.trans E3).trans E4).trans E5) ?_
        rintro w6 E6 hB1 K1 hz1; have E7 := ((E3.trans E4).trans E5).wroteAt exq E6 K1 hz1 Ka; refine Zc rfl<|Gm<|Gt<|Gs<|Vq rfl<|Vt rfl<|Vx rfl (Zt (v := .bool _) rfl) (fun h1 => ?_) (fun h1 => ?_); contradiction; refine Vq rfl<|Vt rfl<|Vc rfl<|Gm<|Vv rfl (fun h2 => ?_) (fun h2 => ?_); refine Gs<|Zh v rfl<|Gz rfl<|Vn v rfl<|Zr rfl<|Gm<|Zd ?_; refine Zk (v := .tuple #[v, .int _ _]) rfl ?_; rotate_left; contradiction
      obtain ⟨e1, e2⟩ := rj_stop hrj (by rw [hd]; exact rj_none h10 hr)
      refine ⟨v, by rw [e2], E2.trans (by first | assumption | exact Ext.trans Kd Kd | exact Ext.trans Kd (Ext.trans Kd Kd)), ?_⟩
      rw [← e1]; exact hO1.ext (by first | assumption | exact Ext.trans Kd Kd | exact Ext.trans Kd (Ext.trans Kd Kd))
    | some a =>
      rw [hr] at kx
      have hat : a.text.length ≤ 9223372036854775807 := rdD_text hr Ka
      focus
        have szE2 := E2.size; refine Gy<|Gs<|Yd rfl<|Gz rfl<|Wo rfl (Uu Je rfl rfl Ka) ?_; refine Gu rfl (Vb (a := .string _) (b := .string _) Tryz.call102 rfl rfl) (kc _ ((Mono.mono E2 hM))) ?_; rintro _ w3 ⟨rfl, E3⟩; have hs2 := E3.size; refine Xf rfl<|WsxT rfl<|WsxT rfl<|Yz rfl<|Yo rfl<|Yo rfl<|Zc rfl<|Gm<|Gs<|Yd rfl<|Gu rfl (Vh (a := .string _) Tryz.call103 rfl) (kx _ ((Mono.mono exq hM))) ?_; rintro _ w4 ⟨rfl, E4⟩; have hs3 := E4.size; refine Xf rfl<|To rfl<|Yz rfl<|Yi rfl Zz ?_; rintro b2 w5 hb2 E5 hB1; have hlb2 := hB1.lt; refine Wo_st3 rfl Kr rfl rfl Ke Ke Ke hB1 Ka (((E2.trans E3).trans E4).trans E5) ?_
        rintro w6 E6 hB1 K1 hz1; have E7 := ((E3.trans E4).trans E5).wroteAt exq E6 K1 hz1 Ka; refine Zc rfl<|Gm<|Gt<|Gs<|Vq rfl<|Vt rfl<|Vx rfl (Zt (v := .bool _) rfl) (fun h1 => ?_) (fun h1 => ?_); contradiction; refine Vq rfl<|Vt rfl<|Vc rfl<|Gm<|Vv rfl (fun h2 => ?_) (fun h2 => ?_); contradiction; refine Gx<|Gs<|Zh v rfl<|Xq Jb Kr hB1 rfl<|Tn (a1 := ⟨_, _, _⟩) rfl Xs rfl (by first | assumption | omega | (simp <;> omega)) ?_; rintro b3 w7 hb3 E10 hO2; have hs5 := E10.size; refine Qf rfl Xs rfl rfl (hO1.ext (E7.trans E10)) hO2 Kf Ka (E6.trans E10) Ka ?_; rintro v1 w8 hO3 E11 G1; refine Vn v1 rfl<|Gm ?_
        refine Zl<|Gz rfl<|Yd rfl<|Wo rfl (Yh Je rfl)<|Va rfl<|Va rfl<|Zr rfl<|Gm ?_
      refine ⟨((f + x.length + 1, L ++ [a], v1)), Kg, Kh, ?_, ?_⟩
      · exact ⟨Kd, Ka, by simp; omega, Kd, rj_next hrj hd h10 hr⟩
      · simp only; omega
end Go.Proofs.YtbgpppaljpngmaaGreatDoor
set_option linter.unusedVariables false
namespace Go.Hs
end Go.Hs
set_option linter.unusedVariables false
namespace Go.Hs
def RetDkT (w : World) (e0 e1 e2 : TypeId) (now : List (List Int)) (past : List (List (List Int))) (t : List UInt8) : Value → World → Prop := fun v w' => ∃ u1 u2 m, v = .tuple #[.agg #[u1, u2], str t] ∧ Ext w w' ∧ OwnedB w.heap.size m (XSl e1 (XSl e2 XInt)) w' u1 now ∧ Owned m (XSl e0 (XSl e1 (XSl e2 XInt))) w' u2 past ∧ w.heap.size ≤ m ∧ m ≤ w'.heap.size
end Go.Hs
namespace Go.Proofs.YtbgpppaljpngmaaGreatDoor
open Go.Hs
set_option maxRecDepth 10000
set_option maxHeartbeats 4000000
set_option linter.unusedVariables false
set_option linter.unusedSimpArgs false
def okV (b : Bool) : List UInt8 := if b then [111, 107] else [110, 111, 116]
open Classical in
theorem deskLineD_ok (w : World) (hM : EMx gMx w (.bool true) ()) (u1 u2 : Value) (d : Dsk) (h1 : ESl Ints w u1 d.now) (h2 : ESl (ESl Ints) w u2 d.past) (hd : DkOk d) (s : List UInt8) (hs : s.length ≤ 1048576) (a : Deed) (ha : rdD s = some a) :
    Does Tryz.prog 59 [.agg #[u1, u2], str s] w (RetDkT w 23 88 3 (doV d a).1.now (doV d a).1.past (okV (doV d a).2)) := by
  have icu1 : isCell u1 = true := Xu h1
  have icu2 : isCell u2 = true := Xu h2
  have hat : a.text.length ≤ 1048576 := rdD_text ha hs
  have k0 : ∀ (w : World), EMx gMx w (.bool true) () → Does Tryz.prog 103 [str s] w (Ret w (.tuple #[.agg #[.int .i64 a.kind, str a.text, .int .i64 a.node], .bool true])) := fun w hM => by
    have := Te w s hM hs
    rw [ha] at this; exact this
  have k1 : ∀ w, EMx gMx w (.bool true) () → ESl Ints w u1 d.now → ESl (ESl Ints) w u2 d.past → Does Tryz.prog 92 [.agg #[u1, u2], .agg #[.int .i64 a.kind, str a.text, .int .i64 a.node]] w (RetDkB w 23 88 3 (doV d a).1.now (doV d a).1.past (doV d a).2) := fun w hM h1 h2 => deskDo_ok w hM u1 u2 d h1 h2 hd a.kind a.node a.text hat
  refine Qx Tryz.func59 rfl Tryz.results59 Tryz.ntmps59 rfl Ks Ko ?_
  have litown : True := trivial
  cases hb : (doV d a).2 with
  | true =>
    rw [hb] at k1
    focus
      refine Gs<|Vp rfl rfl rfl ?_; rintro b1 w1 hb1 E1 hB1; have hlb1 := hB1.lt; refine Zq rfl Vk ?_; rintro b2 w2 hb2 E2 hB2; have hlb2 := hB2.lt; refine Yo rfl<|Gm<|Gt<|Gs<|Yd rfl<|Gu rfl (Vh (a := .string _) Tryz.call103 rfl) (k0 _ ((Mono.mono exq hM))) ?_; rintro _ w3 ⟨rfl, E3⟩; have hs3 := E3.size; refine Xf rfl<|To rfl<|Yz rfl<|Yi rfl Zz ?_; rintro b3 w4 hb3 E4 hB3; have hlb3 := hB3.lt; refine Wo_st3 rfl Kr rfl rfl Ke Ke Ke hB3 Ka (((E1.trans E2).trans E3).trans E4) ?_; rintro w5 E5 hB3 K1 hz1; have E6 := ((E2.trans E3).trans E4).wroteAt exq E5 K1 hz1 Ka; have szE6 := E6.size; have hB1 := (hB1.ext exq).of_heap (K1 _ Ka)
      have hB2 := (hB2.ext exq).of_heap (K1 _ Ka); refine Zc rfl<|Gm<|Gs<|Vq rfl<|Gm<|Vj rfl ?_; refine Gs<|Ye Ks Ko hB1 rfl<|Xq Jb Kr hB3 rfl<|Gu rfl (Vb (a := .agg _) (b := .agg _) Tryz.call92 rfl rfl) (k1 _ ((Mono.mono E5 hM)) ((Mono.mono E5 h1)) ((Mono.mono E5 h2))) ?_; rintro _ w6 ⟨u3, q1, m1, rfl, E9, hO1, hQ1, hm1, hn1⟩; have icu3 := OwnedB.isC hO1; have icq1 := OwnedB.isC (Owned.toB hQ1); have hs5 := E9.size; refine Xf rfl<|To rfl<|Yz rfl<|Zq rfl Vk ?_; rintro b4 w7 hb4 E10 hB4; have hlb4 := hB4.lt; refine Yu Ko hB4 rfl ((E5.trans E9).trans E10) ?_; rintro w8 E11 hB4 K2 hz2; have hB2 := (hB2.ext exq).of_heap (K2 _ Ka); have hO1 := (hO1.ext E10).wrote K2 Ka; have hQ1 := (hQ1.toB.ext E10).wrote K2 Ka
      refine Zc rfl<|Gm<|Gt<|Gs<|Vq rfl<|Vt rfl<|Gm<|Vv rfl (fun h3 => ?_) (fun h3 => ?_); contradiction; refine Gx<|Gs<|Ye Ks Ko hB4 rfl<|Yu Ko hB2 rfl E11 ?_; rintro w9 E17 hB2 K3 hz3; have hO1 := hO1.wrote K3 Ka; have hQ1 := hQ1.wrote K3 Ka; refine Yo rfl<|Gm<|Zd ?_
    exact ⟨b2, u3, q1, rfl, hB2, u3, q1, m1, rfl, by exact E17, hO1.wide Ka (Nat.le_refl _), hQ1.o, Ka, Ka⟩
  | false =>
    rw [hb] at k1
    focus
      refine Gs<|Vp rfl rfl rfl ?_; rintro b1 w1 hb1 E1 hB1; have hlb1 := hB1.lt; refine Zq rfl Vk ?_; rintro b2 w2 hb2 E2 hB2; have hlb2 := hB2.lt; refine Yo rfl<|Gm<|Gt<|Gs<|Yd rfl<|Gu rfl (Vh (a := .string _) Tryz.call103 rfl) (k0 _ ((Mono.mono exq hM))) ?_; rintro _ w3 ⟨rfl, E3⟩; have hs3 := E3.size; refine Xf rfl<|To rfl<|Yz rfl<|Yi rfl Zz ?_; rintro b3 w4 hb3 E4 hB3; have hlb3 := hB3.lt; refine Wo_st3 rfl Kr rfl rfl Ke Ke Ke hB3 Ka (((E1.trans E2).trans E3).trans E4) ?_; rintro w5 E5 hB3 K1 hz1; have E6 := ((E2.trans E3).trans E4).wroteAt exq E5 K1 hz1 Ka; have szE6 := E6.size; have hB1 := (hB1.ext exq).of_heap (K1 _ Ka)
      have hB2 := (hB2.ext exq).of_heap (K1 _ Ka); refine Zc rfl<|Gm<|Gs<|Vq rfl<|Gm<|Vj rfl ?_; refine Gs<|Ye Ks Ko hB1 rfl<|Xq Jb Kr hB3 rfl<|Gu rfl (Vb (a := .agg _) (b := .agg _) Tryz.call92 rfl rfl) (k1 _ ((Mono.mono E5 hM)) ((Mono.mono E5 h1)) ((Mono.mono E5 h2))) ?_; rintro _ w6 ⟨u3, q1, m1, rfl, E9, hO1, hQ1, hm1, hn1⟩; have icu3 := OwnedB.isC hO1; have icq1 := OwnedB.isC (Owned.toB hQ1); have hs5 := E9.size; refine Xf rfl<|To rfl<|Yz rfl<|Zq rfl Vk ?_; rintro b4 w7 hb4 E10 hB4; have hlb4 := hB4.lt; refine Yu Ko hB4 rfl ((E5.trans E9).trans E10) ?_; rintro w8 E11 hB4 K2 hz2; have hB2 := (hB2.ext exq).of_heap (K2 _ Ka); have hO1 := (hO1.ext E10).wrote K2 Ka; have hQ1 := (hQ1.toB.ext E10).wrote K2 Ka
      refine Zc rfl<|Gm<|Gt<|Gs<|Vq rfl<|Vt rfl<|Gm<|Vv rfl (fun h3 => ?_) (fun h3 => ?_); refine Gs<|Ye Ks Ko hB4 rfl<|Yu Ko hB2 rfl E11 ?_; rintro w9 E17 hB2 K3 hz3; have hO1 := hO1.wrote K3 Ka; have hQ1 := hQ1.wrote K3 Ka; refine Yo rfl<|Gm<|Zd ?_; rotate_left; contradiction
    exact ⟨b2, u3, q1, rfl, hB2, u3, q1, m1, rfl, by exact E17, hO1.wide Ka (Nat.le_refl _), hQ1.o, Ka, Ka⟩
open Classical in
theorem DeskLineD_ok (w : World) (hM : EMx gMx w (.bool true) ()) (u1 u2 : Value) (d : Dsk) (h1 : ESl Ints w u1 d.now) (h2 : ESl (ESl Ints) w u2 d.past) (hd : DkOk d) (s : List UInt8) (hs : s.length ≤ 1048576) (a : Deed) (ha : rdD s = some a) :
    Does Tryz.prog 13 [.agg #[u1, u2], str s] w (RetDkT w 23 88 3 (doV d a).1.now (doV d a).1.past (okV (doV d a).2)) := by
  have icu1 : isCell u1 = true := Xu h1
  have icu2 : isCell u2 = true := Xu h2
  have k0 : ∀ w, ESl Ints w u1 d.now → ESl (ESl Ints) w u2 d.past → Does Tryz.prog 58 [.agg #[u1, u2]] w (Ret w (.bool true)) := fun w h1 h2 => by
    have := isDesk_ok w u1 u2 d h1 h2; rwa [decide_eq_true hd] at this
  have k1 : ∀ w, EMx gMx w (.bool true) () → ESl Ints w u1 d.now → ESl (ESl Ints) w u2 d.past → Does Tryz.prog 59 [.agg #[u1, u2], str s] w (RetDkT w 23 88 3 (doV d a).1.now (doV d a).1.past (okV (doV d a).2)) := fun w hM h1 h2 => deskLineD_ok w hM u1 u2 d h1 h2 hd s hs a ha
  refine Qx Tryz.func13 rfl Tryz.results13 Tryz.ntmps13 rfl Ks Ko ?_
  focus
    refine Gs<|Vp rfl rfl rfl ?_; rintro b1 w1 hb1 E1 hB1; have hlb1 := hB1.lt; refine Zq rfl Vk ?_; rintro b2 w2 hb2 E2 hB2; have hlb2 := hB2.lt; refine Yo rfl<|Gm<|Gt<|Gs<|Ye Ks Ko (hB1.ext E2) rfl<|Gu rfl (Vh (a := .agg _) Tryz.call58 rfl) (k0 _ ((Mono.mono exq h1)) ((Mono.mono exq h2))) ?_; rintro _ w3 ⟨rfl, E3⟩; have hs3 := E3.size; refine Vt rfl<|Gm<|Vv rfl (fun h3 => ?_) (fun h3 => ?_); contradiction; refine Gx<|Gs<|Ye Ks Ko (hB1.ext exq) rfl<|Yd rfl<|Gu rfl (Vb (a := .agg _) (b := .string _) Tryz.call59 rfl rfl) (k1 _ ((Mono.mono exq hM)) ((Mono.mono exq h1)) ((Mono.mono exq h2))) ?_; rintro _ w4 ⟨u3, q1, m1, rfl, E4, hO1, hQ1, hm1, hn1⟩; have icu3 := OwnedB.isC hO1; have icq1 := OwnedB.isC (Owned.toB hQ1); refine To rfl<|WsxT rfl ?_
    refine Xd rfl Ko rfl rfl Ke Ke (hB2.ext (E3.trans E4)) Ka (((E1.trans E2).trans E3).trans E4) ?_; rintro w5 E5 hB2 K1 hz1; have hO1 := hO1.wrote K1 Ka; have hQ1 := hQ1.toB.wrote K1 Ka; refine Yo rfl<|Gm<|Zd ?_
  exact ⟨b2, u3, q1, rfl, hB2, u3, q1, m1, rfl, by exact E5, hO1.wide Ka (Nat.le_refl _), hQ1.o, Ka, Ka⟩
end Go.Proofs.YtbgpppaljpngmaaGreatDoor
namespace Go.Proofs.YtbgpppaljpngmaaGreatDoor
open Go.Hs
set_option maxRecDepth 10000
set_option maxHeartbeats 4000000
set_option linter.unusedVariables false
set_option linter.unusedSimpArgs false
theorem shift_row {n : Nat} {r : List Int} {o : Nat} (j : Nat) (hj : j < r.length) (hn : o + r.length ≤ n) : (List.replicate o 0 ++ r.take j ++ List.replicate (n - o - j) 0).set (o + j) r[j] = List.replicate o 0 ++ r.take (j + 1) ++ List.replicate (n - o - (j + 1)) 0 := by
  rw [List.append_assoc, List.set_append_right _ _ Ki, List.append_assoc]
  congr 1
  rw [List.length_replicate, Nat.add_sub_cancel_left, List.set_append_right _ _ (by simp; omega)]
  rw [show j - (r.take j).length = 0 by simp; omega, show n - o - j = (n - o - (j + 1)) + 1 by omega, List.replicate_succ, List.set_cons_zero, Vl _ _ hj, List.append_assoc]
  rfl
theorem l6Put_ok (w : World) (v u vl vr : Value) (p q : List (List Int)) (L R : List Nat) (h : ESl Ints w v p) (h' : ESl Ints w u q) (hL : Ints w vl (ints L)) (hR : Ints w vr (ints R)) (hp : Pic p) (hq : Pic q ∨ q = [])
    (hl : ∀ x ∈ L, x < p.length) (hr : ∀ x ∈ R, x < q.length) (hll : L.length ≤ 1000) (hrl : R.length ≤ 1000) :
    Does Tryz.prog 176 [v, u, vl, vr] w (RetO w XR (put (bes p q) (L ++ R.map (p.length + ·)))) := by
  have hp5 := hp.2.1
  have hq5 : q.length ≤ 5 := by rcases hq with hq | rfl; exact hq.2.1; simp
  have hqrow : ∀ (k : Nat) (hk : k < q.length), q[k].length = q.length := fun k hk => by
    rcases hq with hq | rfl
    · exact hq.row hk
    · cases hk
  have hil := Yg L
  have hir := Yg R
  obtain ⟨g, hg⟩ : ∃ g, g = p.length + q.length := ⟨_, rfl⟩
  refine Zy Tryz.func176 rfl Tryz.results176 Tryz.ntmps176 rfl ?_
  have keepR : True := trivial
  focus
    refine Gs<|Vr rfl<|Gm<|Gs<|Zh v rfl<|Zm Kq rfl h<|Va rfl<|Zh u rfl<|Zm Kq rfl h'<|Va rfl<|Zr rfl<|Gm<|Gs<|Gz rfl<|Sk rfl Ug (int_z Ka rfl) Ka ?_; rintro b1 w1 hb1 b1lt E1 hO1; refine Zw (ps := [(0, .slice _ _ _)]) (cs := [_]) rfl Kq Kv Jn rfl rfl rfl rfl ?_; rintro b2 w2 hb2 E2 hB1 hHb2; refine Vr rfl<|Gm<|Gt<|Gs<|Zr rfl<|Gm<|Gy ?_
  clear keepR
  obtain ⟨N, hN⟩ : ∃ N, N = (1 + (p.length : Int) + (q.length : Int)).toNat := ⟨_, rfl⟩
  have hNg : N = g + 1 := Ka
  rw [← hN] at hO1 hHb2
  have hO0 : Owned w.heap.size XR w2 (.slice (some ⟨b2, 0, none⟩) 1 1) [ro g []] := by
    rw [ro_nil, ← hNg]
    exact Owned.single (hO1.toB.ext E2) hHb2 Ka Ka
  clear hO1 hHb2 hB1
  have hrl0 : ∀ ms, (ro g ms).length = g + 1 := fun ms => ro_len
  refine Vf [11, 28, 29, 30, 31, 32, 33, 34, 35, 36, 37, 38, 39, 40, 41, 42] (fun ((k, rows) : Nat × List (List Int)) => [(11, .int .i64 (k : Nat))]) (fun (k, rows) w' => Ext w w' ∧ k ≤ L.length ∧ Owned w.heap.size XR w' (.slice (some ⟨b2, 0, none⟩) 1 1) rows ∧ rows = [ro g (L.take k)]) (fun x => L.length - x.1) (0, [ro g []]) Kg ?_ ?_
  · exact ⟨by exact (E1.trans E2), Nat.zero_le _, hO0, rfl⟩
  clear hO0
  rintro ⟨k, rows⟩ ρj w3 ⟨E3, hk, hO0, hrw⟩
  have hlr : rows.length = 1 := by rw [hrw]; rfl
  have hr0 : rows[0]'Ka = ro g (L.take k) := by simp only [hrw, List.getElem_cons_zero]
  have hr0l : (rows[0]'Ka).length = g + 1 := by rw [hr0]; exact hrl0 _
  obtain ⟨br, cr, hRw, hbr1, hbr2⟩ := hO0.rowAt (i := 0) Ka Ka
  by_cases hlt : k < L.length
  · have hgk : (ints L)[k]'Ka = (L[k] : Int) := Xr hlt
    have hLk := hl L[k] (List.getElem_mem hlt)
    have hcell := Ti hRw
    have heldS : w = w := rfl
    focus
      refine Gt<|Gs<|Gz rfl<|Zh vl rfl<|Zm Kn rfl hL<|Zo rfl<|Gm<|Gq rfl (fun h1 => ?_) (fun h1 => ?_); refine Gx<|Gt<|Gy<|Qb (fun w' => Ext w w') Yn rfl Kb ?_; intro w4 E4 K1 hz1; refine WtmS 0 rfl rfl exq<|Zj 1 rfl Kb Kb rfl (fun _ _ => Zu (k := 0) Kq Kv rfl rfl Ka) exq ?_; refine WtmV 3 vl rfl rfl exq<|WtmI 4 rfl rfl exq<|Wh_get 5 6 rfl Kb Kb rfl rfl Kb Kb (fun _ => rfl) Kn Kl Km rfl hL (fun w' hw' => Ext.trans (Ext.refl _) hw') rfl Kf exq ?_
      rintro _ _ rfl; refine Zj 7 rfl Kb Kb rfl (fun _ _ => Yk rfl rfl Ka) exq ?_; refine Wha [2]<|Gp rfl ?_ ?_; refine Wo rfl (Zv Ja rfl (E4.cell hcell))<|Gm ?_; refine ⟨exq, ?_⟩; refine Zj 8 rfl Kb Kb rfl (fun _ _ => Xa Kn Kl rfl rfl Ka) exq ?_; refine Wha [9]<|Gp rfl ?_ ?_; refine Qm rfl Kl rfl rfl (hO0.toB.ext E4) (hRw.ext E4) Kf Kf ?_; rintro w5 hO0 hRw On1 K2 hz2; have E5 := On1.ext1 (E3.trans E4) Ka; refine Gm ?_; refine ⟨E5, ?_⟩; refine Vd Kb ?_; refine Zl<|Gz rfl<|Va rfl<|Zr rfl<|Gm ?_; rotate_left; exact Gv; exact Gv; (exfalso; omega)
    refine ⟨((k + 1, rows.set 0 (rows[0].set (1 + (ints L)[k]'Ka).toNat 1))), Kg, Kh, ?_, ?_⟩
    · refine ⟨by exact E5, Ka, by exact hO0, ?_⟩
      rw [row_next (Q := rows) (i := 0) (r := ro g (L.take k)) (r' := ro g (L.take (k + 1))) (by rw [hrw]; rfl) Ka ?_]
      · rw [hrw]; rfl
      · rw [hr0, show (1 + (ints L)[k]'Ka).toNat = L[k] + 1 by rw [hgk]; omega, ro_step Ka, ← Vl]
    · simp only; omega
  · obtain rfl : k = L.length := by omega
    rw [List.take_length] at hrw hr0
    clear hRw
    focus
      refine Gt<|Gs<|Gz rfl<|Zh vl rfl<|Zm Kn rfl hL<|Zo rfl<|Gm<|Gq rfl (fun h1 => ?_) (fun h1 => ?_); (exfalso; omega); refine Ve ?_; refine Zi ?_; refine Gt<|Gs<|Zr rfl<|Gm<|Gy ?_
    refine Vf [12, 43, 44, 45, 46, 47, 48, 49, 50, 51, 52, 53, 54, 55, 56, 57, 58, 59, 60] (fun ((k, rows) : Nat × List (List Int)) => [(12, .int .i64 (k : Nat))]) (fun (k, rows) w' => Ext w w' ∧ k ≤ R.length ∧ Owned w.heap.size XR w' (.slice (some ⟨b2, 0, none⟩) 1 1) rows ∧ rows = [ro g (L ++ (R.take k).map (p.length + ·))]) (fun x => R.length - x.1) (0, rows) Kg ?_ ?_
    · exact ⟨by exact E3, Nat.zero_le _, hO0, by rw [hrw]; simp⟩
    clear hO0 hr0 hr0l hlr hrw
    rintro ⟨k, rows⟩ ρk w4 ⟨E4, hk, hO0, hrw⟩
    have hlr : rows.length = 1 := by rw [hrw]; rfl
    have hr0 : rows[0]'Ka = ro g (L ++ (R.take k).map (p.length + ·)) := by simp only [hrw, List.getElem_cons_zero]
    have hr0l : (rows[0]'Ka).length = g + 1 := by rw [hr0]; exact hrl0 _
    obtain ⟨br, cr, hRw, hbr1, hbr2⟩ := hO0.rowAt (i := 0) Ka Ka
    by_cases hlt : k < R.length
    · have hgk : (ints R)[k]'Ka = (R[k] : Int) := Xr hlt
      have hRk := hr R[k] (List.getElem_mem hlt)
      have hcell := Ti hRw
      have heldS : w = w := rfl
      focus
        refine Gt<|Gs<|Gz rfl<|Zh vr rfl<|Zm Kn rfl hR<|Zo rfl<|Gm<|Gq rfl (fun h2 => ?_) (fun h2 => ?_); refine Gx<|Gt<|Gy<|Qb (fun w' => Ext w w') Yn rfl Kb ?_; intro w5 E5 K1 hz1; refine WtmS 0 rfl rfl exq<|Zj 1 rfl Kb Kb rfl (fun _ _ => Zu (k := 0) Kq Kv rfl rfl Ka) exq ?_; refine WtmV 3 v rfl rfl exq<|Zj 4 rfl Kb Kb rfl (fun _ _ => Uh Kq rfl h) exq ?_; refine Zj 5 rfl Kb Kb rfl (fun _ _ => Yk rfl rfl Ka) exq ?_; refine WtmV 6 vr rfl rfl exq<|WtmI 7 rfl rfl exq ?_
        refine Wh_get 8 9 rfl Kb Kb rfl rfl Kb Kb (fun _ => rfl) Kn Kl Km rfl hR (fun w' hw' => Ext.trans (Ext.refl _) hw') rfl Kf exq ?_; rintro _ _ rfl; refine Zj 10 rfl Kb Kb rfl (fun _ _ => Yk rfl rfl Ka) exq ?_; refine Wha [2]<|Gp rfl ?_ ?_; refine Wo rfl (Zv Ja rfl (E5.cell hcell))<|Gm ?_; refine ⟨exq, ?_⟩; refine Zj 11 rfl Kb Kb rfl (fun _ _ => Xa Kn Kl rfl rfl Ka) exq ?_; refine Wha [12]<|Gp rfl ?_ ?_; refine Qm rfl Kl rfl rfl (hO0.toB.ext E5) (hRw.ext E5) Kf Kf ?_; rintro w6 hO0 hRw On1 K2 hz2
        have E6 := On1.ext1 (E4.trans E5) Ka; refine Gm ?_; refine ⟨E6, ?_⟩; refine Vd Kb ?_; refine Zl<|Gz rfl<|Va rfl<|Zr rfl<|Gm ?_; rotate_left; exact Gv; exact Gv; (exfalso; omega)
      refine ⟨((k + 1, rows.set 0 (rows[0].set (1 + (p.length : Int) + (ints R)[k]'Ka).toNat 1))), Kg, Kh, ?_, ?_⟩
      · refine ⟨by exact E6, Ka, by exact hO0, ?_⟩
        rw [row_next (Q := rows) (i := 0) (r := ro g (L ++ (R.take k).map (p.length + ·))) (r' := ro g (L ++ (R.take (k + 1)).map (p.length + ·))) (by rw [hrw]; rfl) Ka ?_]
        · rw [hrw]; rfl
        · rw [hr0, show (1 + (p.length : Int) + (ints R)[k]'Ka).toNat = (p.length + R[k]) + 1 by rw [hgk]; omega, ro_step Ka, Vl _ _ hlt, List.map_append, List.append_assoc]
          rfl
      · simp only; omega
    · obtain rfl : k = R.length := by omega
      rw [List.take_length] at hrw hr0
      obtain ⟨ms, hms⟩ : ∃ ms, ms = L ++ R.map (p.length + ·) := ⟨_, rfl⟩
      rw [← hms] at hrw hr0 ⊢
      clear hRw
      focus
        have szE4 := E4.size; have szE3 := E3.size; have szE2 := E2.size; have szE1 := E1.size; refine Gt<|Gs<|Gz rfl<|Zh vr rfl<|Zm Kn rfl hR<|Zo rfl<|Gm<|Gq rfl (fun h2 => ?_) (fun h2 => ?_); (exfalso; omega); refine Ve ?_; refine Zi ?_; refine Gt<|Gs<|Zr rfl<|Gm<|Gy ?_
      refine Vf [10, 13, 14, 15, 61, 62, 63, 64, 65, 66, 67, 68, 69, 70, 71, 72, 73, 74, 75, 76, 77, 78, 79, 80, 81, 82, 83, 84, 85, 86, 87, 88, 89] (fun ((k, o) : Nat × Value) => [(13, .int .i64 (k : Nat)), (10, o)]) (fun (k, o) w' => Ext w w' ∧ k ≤ p.length ∧ Owned w.heap.size XR w' o (ro g ms :: (p.take k).map fun r => List.replicate 1 0 ++ r ++ List.replicate q.length 0)) (fun x => p.length - x.1) (0, .slice (some ⟨b2, 0, none⟩) 1 1) Kg ?_ ?_
      · exact ⟨by exact E4, Nat.zero_le _, by rw [hrw] at hO0; exact hO0⟩
      clear hO0 hr0 hr0l hlr hrw
      rintro ⟨k, o⟩ ρl w5 ⟨E5, hk, hO0⟩
      have htl : (ro g ms :: (p.take k).map fun r => List.replicate 1 0 ++ r ++ List.replicate q.length 0).length = k + 1 := by simp; omega
      by_cases hlt : k < p.length
      · have hrow := hp.row hlt
        focus
          have szE5 := E5.size; refine Gt<|Gs<|Gz rfl<|Zh v rfl<|Zm Kq rfl h<|Zo rfl<|Gm<|Gq rfl (fun h3 => ?_) (fun h3 => ?_); refine Gx<|Gt<|Gy<|Gs<|Gz rfl<|Sk rfl Ug (int_z Ka rfl) Ka ?_; rintro b3 w6 hb3 b3lt E6 hO1; have hs3 := E6.size; refine Vr rfl<|Gm<|Gt<|Gs<|Zr rfl<|Gm<|Gy ?_; rotate_left; (exfalso; omega)
        have hrl3 : ∀ j, j ≤ p.length → (List.replicate 1 (0 : Int) ++ p[k].take j ++ List.replicate ((1 + (p.length : Int) + (q.length : Int)).toNat - 1 - j) 0).length = g + 1 := fun j hj => by simp; omega
        refine Vf [15, 69, 70, 71, 72, 73, 74, 75, 76, 77, 78, 79, 80, 81, 82, 83, 84, 85] (fun (j : Nat) => [(15, .int .i64 (j : Nat))]) (fun j w' => Ext w w' ∧ w5.heap.size ≤ w'.heap.size ∧ j ≤ p.length ∧ OwnedB w.heap.size w5.heap.size XR w' o (ro g ms :: (p.take k).map fun r => List.replicate 1 0 ++ r ++ List.replicate q.length 0) ∧ Owned w5.heap.size XI w' (.slice (some ⟨b3, 0, none⟩) (1 + (p.length : Int) + (q.length : Int)).toNat (1 + (p.length : Int) + (q.length : Int)).toNat) (List.replicate 1 0 ++ p[k].take j ++ List.replicate ((1 + (p.length : Int) + (q.length : Int)).toNat - 1 - j) 0)) (fun j => p.length - j) 0 Kg ?_ ?_
        · refine ⟨by exact (E5.trans E6), Ka, Nat.zero_le _, hO0.toB.ext (by exact E6), ?_⟩
          rw [show List.replicate 1 (0 : Int) ++ p[k].take 0 ++ List.replicate ((1 + (p.length : Int) + (q.length : Int)).toNat - 1 - 0) 0 = List.replicate (1 + (p.length : Int) + (q.length : Int)).toNat 0 by
            rw [List.take_zero, List.append_nil, List.replicate_append_replicate]; congr 1; omega]
          exact hO1
        clear hO0 hO1
        rintro j ρm w7 ⟨E7, hs7, hj, hO0, hO1⟩
        have hrj := hrl3 j hj
        by_cases hjl : j < p.length
        · focus
            refine Gt<|Gs<|Gz rfl<|Zh v rfl<|Zm Kq rfl h<|Zo rfl<|Gm<|Gq rfl (fun h4 => ?_) (fun h4 => ?_); refine Gx<|Gt<|Gy<|Zl<|Xj rfl<|Gz rfl<|Va rfl<|Zh v rfl<|Gz rfl<|Vm Kq Kv Ja rfl (fun _ => rfl) rfl h E7 rfl Kf ?_; rintro _ u1 hu1; refine Gz rfl<|Vm Kn Kl Km rfl (fun _ => rfl) rfl hu1 E7 rfl Kf ?_; rintro _ _ rfl; refine Wo rfl (Xa Kn Kl rfl rfl Ka) ?_; refine Wo_set rfl Kl rfl rfl hO1.toB Kf Owned.int (Nat.le_refl _) Ka ?_
            rintro w8 hO1 On1 K1 hz1; have E8 := On1.ext1 E7 Ka; have hO0 := hO0.wrote K1 Ka; refine Gm<|Zl<|Gz rfl<|Va rfl<|Zr rfl<|Gm ?_; rotate_left; (exfalso; omega)
          refine ⟨(j + 1), Kg, Kh, ?_, ?_⟩
          · refine ⟨by exact E8, Ka, Ka, by exact hO0, ?_⟩
            rw [← shift_row j Ka Ka]
            have e : (1 + (j : Int)).toNat = 1 + j := Ka
            rw [← e]
            assumption
          · omega
        · obtain rfl : j = p.length := by omega
          focus
            have szE7 := E7.size; have szE5 := E5.size; refine Gt<|Gs<|Gz rfl<|Zh v rfl<|Zm Kq rfl h<|Zo rfl<|Gm<|Gq rfl (fun h4 => ?_) (fun h4 => ?_); (exfalso; omega); refine Ve ?_; refine Zi ?_; refine Zl<|Zh o rfl<|Xj rfl<|Yc (ps := [(0, .slice _ _ _)]) (cs := [_]) rfl Kq Kv Jn rfl rfl rfl rfl ?_; rintro b4 w8 hb4 E8 hB1; have hs4 := E8.size; refine Yf rfl Ui rfl rfl hB1 (hO0.ext E8) (hO1.toB.ext E8).o Ka Kf Ka Ka (E7.trans E8) Ka ?_; rintro v1 w9 hO0 E9 M1; refine Vn v1 rfl<|Gm<|Zl<|Gz rfl<|Va rfl<|Zr rfl<|Gm ?_
          refine ⟨((k + 1, v1)), Kg, Kh, ?_, ?_⟩
          · refine ⟨by exact E9, Ka, ?_⟩
            rw [Vl _ _ hlt, List.map_append, ← List.cons_append]
            have e : List.replicate 1 (0 : Int) ++ p[k].take p.length ++ List.replicate ((1 + (p.length : Int) + (q.length : Int)).toNat - 1 - p.length) 0 = List.replicate 1 0 ++ p[k] ++ List.replicate q.length 0 := by
              rw [List.take_of_length_le Ka]; congr 2; omega
            simp only [List.map_cons, List.map_nil]
            rw [← e]
            assumption
          · simp only; omega
      · obtain rfl : k = p.length := by omega
        rw [List.take_length] at hO0 htl
        focus
          refine Gt<|Gs<|Gz rfl<|Zh v rfl<|Zm Kq rfl h<|Zo rfl<|Gm<|Gq rfl (fun h3 => ?_) (fun h3 => ?_); (exfalso; omega); refine Ve ?_; refine Zi ?_; refine Gt<|Gs<|Zr rfl<|Gm<|Gy ?_
        refine Vf [10, 16, 17, 18, 90, 91, 92, 93, 94, 95, 96, 97, 98, 99, 100, 101, 102, 103, 104, 105, 106, 107, 108, 109, 110, 111, 112, 113, 114, 115, 116, 117, 118, 119, 120, 121] (fun ((k, o) : Nat × Value) => [(16, .int .i64 (k : Nat)), (10, o)]) (fun (k, o) w' => Ext w w' ∧ k ≤ q.length ∧ Owned w.heap.size XR w' o ((ro g ms :: p.map fun r => List.replicate 1 0 ++ r ++ List.replicate q.length 0) ++ (q.take k).map fun r => List.replicate (1 + p.length) 0 ++ r)) (fun x => q.length - x.1) (0, o) Kg ?_ ?_
        · exact ⟨by exact E5, Nat.zero_le _, by simpa using hO0⟩
        clear hO0
        rintro ⟨k, o2⟩ ρm w6 ⟨E6, hk, hO0⟩
        have htl2 : ((ro g ms :: p.map fun r => List.replicate 1 0 ++ r ++ List.replicate q.length 0) ++ (q.take k).map fun r => List.replicate (1 + p.length) 0 ++ r).length = p.length + 1 + k := by rw [List.length_append, htl]; simp; omega
        by_cases hlt : k < q.length
        · have hrow := hqrow k hlt
          focus
            have szE6 := E6.size; refine Gt<|Gs<|Gz rfl<|Zh u rfl<|Zm Kq rfl h'<|Zo rfl<|Gm<|Gq rfl (fun h4 => ?_) (fun h4 => ?_); refine Gx<|Gt<|Gy<|Gs<|Gz rfl<|Sk rfl Ug (int_z Ka rfl) Ka ?_; rintro b3 w7 hb3 b3lt E7 hO1; have hs3 := E7.size; refine Vr rfl<|Gm<|Gt<|Gt<|Zl<|Zr rfl<|Gm<|Gy ?_; rotate_left; (exfalso; omega)
          have hrl3 : ∀ j, j ≤ q.length → (List.replicate (1 + p.length) (0 : Int) ++ q[k].take j ++ List.replicate ((1 + (p.length : Int) + (q.length : Int)).toNat - (1 + p.length) - j) 0).length = g + 1 := fun j hj => by simp; omega
          refine Vf [18, 98, 99, 100, 101, 102, 103, 104, 105, 106, 107, 108, 109, 110, 111, 112, 113, 114, 115, 116, 117] (fun (j : Nat) => [(18, .int .i64 (j : Nat))]) (fun j w' => Ext w w' ∧ w6.heap.size ≤ w'.heap.size ∧ j ≤ q.length ∧ OwnedB w.heap.size w6.heap.size XR w' o2 ((ro g ms :: p.map fun r => List.replicate 1 0 ++ r ++ List.replicate q.length 0) ++ (q.take k).map fun r => List.replicate (1 + p.length) 0 ++ r) ∧ Owned w6.heap.size XI w' (.slice (some ⟨b3, 0, none⟩) (1 + (p.length : Int) + (q.length : Int)).toNat (1 + (p.length : Int) + (q.length : Int)).toNat) (List.replicate (1 + p.length) 0 ++ q[k].take j ++ List.replicate ((1 + (p.length : Int) + (q.length : Int)).toNat - (1 + p.length) - j) 0)) (fun j => q.length - j) 0 Kg ?_ ?_
          · refine ⟨by exact (E6.trans E7), Ka, Nat.zero_le _, hO0.toB.ext (by exact E7), ?_⟩
            rw [show List.replicate (1 + p.length) (0 : Int) ++ q[k].take 0 ++ List.replicate ((1 + (p.length : Int) + (q.length : Int)).toNat - (1 + p.length) - 0) 0 = List.replicate (1 + (p.length : Int) + (q.length : Int)).toNat 0 by
              rw [List.take_zero, List.append_nil, List.replicate_append_replicate]; congr 1; omega]
            exact hO1
          clear hO0 hO1
          rintro j ρn w8 ⟨E8, hs8, hj, hO0, hO1⟩
          have hrj := hrl3 j hj
          by_cases hjl : j < q.length
          · focus
              refine Gt<|Gs<|Gz rfl<|Zh u rfl<|Zm Kq rfl h'<|Zo rfl<|Gm<|Gq rfl (fun h5 => ?_) (fun h5 => ?_); refine Gx<|Gt<|Gy<|Zl<|Xj rfl<|Zh v rfl<|Zm Kq rfl h<|Va rfl<|Gz rfl<|Va rfl<|Zh u rfl<|Gz rfl<|Vm Kq Kv Ja rfl (fun _ => rfl) rfl h' E8 rfl Kf ?_; rintro _ u1 hu1; refine Gz rfl<|Vm Kn Kl Km rfl (fun _ => rfl) rfl hu1 E8 rfl Kf ?_; rintro _ _ rfl; refine Wo rfl (Xa Kn Kl rfl rfl Ka) ?_; refine Wo_set rfl Kl rfl rfl hO1.toB Kf Owned.int (Nat.le_refl _) Ka ?_
              rintro w9 hO1 On1 K1 hz1; have E9 := On1.ext1 E8 Ka; have hO0 := hO0.wrote K1 Ka; refine Gm<|Zl<|Gz rfl<|Va rfl<|Zr rfl<|Gm ?_; rotate_left; (exfalso; omega)
            refine ⟨(j + 1), Kg, Kh, ?_, ?_⟩
            · refine ⟨by exact E9, Ka, Ka, by exact hO0, ?_⟩
              rw [← shift_row j Ka Ka]
              have e : (1 + (p.length : Int) + (j : Int)).toNat = 1 + p.length + j := Ka
              rw [← e]
              assumption
            · omega
          · obtain rfl : j = q.length := by omega
            focus
              have szE8 := E8.size; have szE6 := E6.size; refine Gt<|Gs<|Gz rfl<|Zh u rfl<|Zm Kq rfl h'<|Zo rfl<|Gm<|Gq rfl (fun h5 => ?_) (fun h5 => ?_); (exfalso; omega); refine Ve ?_; refine Zi ?_; refine Zl<|Zh o2 rfl<|Xj rfl<|Yc (ps := [(0, .slice _ _ _)]) (cs := [_]) rfl Kq Kv Jn rfl rfl rfl rfl ?_; rintro b4 w9 hb4 E9 hB1; have hs4 := E9.size; refine Yf rfl Ui rfl rfl hB1 (hO0.ext E9) (hO1.toB.ext E9).o Ka Kf Ka Ka (E8.trans E9) Ka ?_; rintro v1 w10 hO0 E10 M1; refine Vn v1 rfl<|Gm<|Zl<|Gz rfl<|Va rfl<|Zr rfl<|Gm ?_
            refine ⟨((k + 1, v1)), Kg, Kh, ?_, ?_⟩
            · refine ⟨by exact E10, Ka, ?_⟩
              rw [Vl _ _ hlt, List.map_append, ← List.append_assoc]
              have e : List.replicate (1 + p.length) (0 : Int) ++ q[k].take q.length ++ List.replicate ((1 + (p.length : Int) + (q.length : Int)).toNat - (1 + p.length) - q.length) 0 = List.replicate (1 + p.length) 0 ++ q[k] := by
                rw [List.take_of_length_le Ka, show (1 + (p.length : Int) + (q.length : Int)).toNat - (1 + p.length) - q.length = 0 by omega]; simp
              simp only [List.map_cons, List.map_nil]
              rw [← e]
              assumption
            · simp only; omega
        · obtain rfl : k = q.length := by omega
          focus
            refine Gt<|Gs<|Gz rfl<|Zh u rfl<|Zm Kq rfl h'<|Zo rfl<|Gm<|Gq rfl (fun h4 => ?_) (fun h4 => ?_); (exfalso; omega); refine Ve ?_; refine Zi ?_; refine Gs<|Zh o2 rfl<|Vn o2 rfl<|Gm<|Zd ?_; refine ⟨E6, (congrArg (Owned _ _ _ _) ?_).mp (hO0.toB.o.mono Ka)⟩
          rw [List.take_length, put_eq, bes_len, ← hg]
          unfold bes
          rw [List.map_append, List.map_map, List.map_map]
          simp only [List.cons_append, List.cons.injEq, true_and]
          congr 1
          · refine List.map_congr_left fun r _ => ?_
            simp [Nat.add_comm 1, List.replicate_succ]
end Go.Proofs.YtbgpppaljpngmaaGreatDoor
namespace Go.Proofs.YtbgpppaljpngmaaGreatDoor
open Go.Hs
set_option maxRecDepth 10000
set_option maxHeartbeats 4000000
set_option linter.unusedVariables false
set_option linter.unusedSimpArgs false
theorem l6Least_ok (w : World) (v : Value) (p : List (List Int)) (h : ESl Ints w v p) (hp : Gr p) :
    Does Tryz.prog 175 [v] w (RetOB w XR (if (lst p 0).length ≤ 5 then lst p 0 else []) (decide ((lst p 0).length ≤ 5))) := by
  have hp5 := hp.2.1
  have hp1 := hp.1
  have hkl := Ri (p := p)
  have k1 : ∀ w, Does Tryz.prog 202 [.int .i64 (p.length : Int)] w (RetO w XR (matV p (bsm p 0))) := fun w => by
    have := l3Start_ok w p.length hp5
    rwa [matV_zero] at this
  have k2 : ∀ (n : Nat) (w : World) (v v' : Value), ESl Ints w v p → ESl Ints w v' (matV p (bsm p n)) → Does Tryz.prog 203 [v, v'] w (RetO w XR (matV p (bsm p (n + 1)))) := fun n w v v' h h' => l3Round_ok w v v' p h hp _ h'
  refine Ul Tryz.func175 rfl Tryz.results175 Tryz.ntmps175 rfl ?_
  focus
    refine Gs<|Vr rfl<|Zc rfl<|Gm<|Gs<|Zh v rfl<|Zm Kq rfl h<|Gu rfl (Vh (a := .int _ _) Tryz.call202 rfl) (k1 _) ?_; rintro u1 w1 ⟨E1, hO1⟩; refine Vn u1 rfl<|Gm<|Gt<|Gs<|Zr rfl<|Gm<|Gy ?_
  refine Vf [4, 5, 17, 18, 19, 20, 21, 22, 23, 24, 25] (fun ((n, u) : Nat × Value) => [(5, .int .i64 (n : Nat)), (4, u)]) (fun (n, u) w' => Ext w w' ∧ n ≤ p.length ∧ Owned w.heap.size XR w' u (matV p (bsm p n))) (fun x => p.length - x.1) (0, u1) Kg ?_ ?_
  · exact ⟨by exact E1, Nat.zero_le _, hO1⟩
  clear hO1
  rintro ⟨n, um⟩ ρj w2 ⟨E2, hn, hO1⟩
  have k2n := k2 n
  by_cases hnl : n < p.length
  · focus
      have szE2 := E2.size; refine Gt<|Gs<|Gz rfl<|Zh v rfl<|Zm Kq rfl h<|Zo rfl<|Gm<|Gq rfl (fun h1 => ?_) (fun h1 => ?_); refine Gx<|Gt<|Gy<|Zl<|Zh v rfl<|Zh um rfl<|Gu rfl (Vb (a := v) (b := um) Tryz.call203 rfl rfl) (k2n _ _ _ ((Mono.mono E2 h)) ((Owned.read hO1))) ?_; rintro u2 w3 ⟨E3, hO2⟩; refine Vn u2 rfl<|Gm<|Zl<|Gz rfl<|Va rfl<|Zr rfl<|Gm ?_; rotate_left; (exfalso; omega)
    refine ⟨((n + 1, u2)), Kg, Kh, ?_, ?_⟩
    · exact ⟨by exact exq, Ka, hO2.mono Ka⟩
    · simp only; omega
  · obtain rfl : n = p.length := by omega
    clear k1 k2 k2n
    have hml := Ua (p := p) (bsm p p.length)
    have rM := hO1.read
    clear hO1
    focus
      have szE2 := E2.size; refine Gt<|Gs<|Gz rfl<|Zh v rfl<|Zm Kq rfl h<|Zo rfl<|Gm<|Gq rfl (fun h1 => ?_) (fun h1 => ?_); (exfalso; omega); refine Ve ?_; refine Zi ?_; refine Gt<|Zl<|Yb XInt rfl Ug Kl ?_; rintro b1 w3 hb1 b1lt E3 hO1; refine Vr rfl<|Gm<|Gt<|Gt<|Zl<|Zr rfl<|Gm<|Gy ?_
    refine Vf [6, 7, 8, 27, 28, 29, 30, 31, 32, 33, 34, 35, 36, 37, 38, 39, 40, 41, 42, 43, 44, 45, 46, 47, 48, 49, 50] (fun ((k, u) : Nat × Value) => [(7, .int .i64 (k : Nat)), (6, u)]) (fun (k, u) w' => Ext w2 w' ∧ k ≤ p.length ∧ Owned w2.heap.size XI w' u ((ints (kndL p)).take k)) (fun x => p.length - x.1) (0, .slice (some ⟨b1, 0, none⟩) 0 0) Kg ?_ ?_
    · exact ⟨by exact E3, Nat.zero_le _, by simpa using hO1⟩
    clear hO1
    rintro ⟨k, uk⟩ ρk w4 ⟨E4, hk, hO1⟩
    have htl : ((ints (kndL p)).take k).length = k := by simp; omega
    by_cases hlt : k < p.length
    · obtain ⟨g1, g2, g3⟩ := Rw hlt
      focus
        have szE4 := E4.size; refine Gt<|Gs<|Gz rfl<|Zh v rfl<|Zm Kq rfl h<|Zo rfl<|Gm<|Gq rfl (fun h2 => ?_) (fun h2 => ?_); refine Gx<|Gt<|Gy<|Gs<|Zr rfl<|Gm<|Gy ?_; rotate_left; (exfalso; omega)
      refine Vf [6, 8, 33, 34, 35, 36, 37, 38, 39, 40, 41, 42, 43, 44, 45, 46, 47, 48, 49, 50] (fun (j : Nat) => [(8, .int .i64 (j : Nat)), (6, uk)]) (fun j w' => w' = w4 ∧ j ≤ knd p k) (fun j => p.length - j) 0 Kg ?_ ?_
      · exact ⟨rfl, Nat.zero_le _⟩
      rintro j ρl w5 ⟨rfl, hj⟩
      have hmr := Ut (p := p) (S := bsm p p.length) hlt
      have hma := Rb (p := p) (S := bsm p p.length) (a := k) (b := j) hlt Ka
      rcases Nat.lt_or_ge j (knd p k) with hjl | hjl
      · have h0 : ((matV p (bsm p p.length))[k]'Ka)[j]'Ka = 0 := by rw [hma, show bsm p p.length k j = false from g3 j hjl]; rfl
        focus
          refine Gt<|Gs<|Gz rfl<|Zh v rfl<|Zm Kq rfl h<|Zo rfl<|Gm<|Gq rfl (fun h3 => ?_) (fun h3 => ?_); refine Gx<|Gt<|Gy<|Gs<|Zh um rfl<|Gz rfl<|Vm Kq Kv Ja rfl (fun _ => rfl) rfl rM E4 rfl Kf ?_; rintro _ u2 hu1; refine Gz rfl<|Vm Kn Kl Km rfl (fun _ => rfl) rfl hu1 E4 rfl Kf ?_; rintro _ _ rfl; refine Zs rfl<|Gm<|Gq rfl (fun h4 => ?_) (fun h4 => ?_); (exfalso; omega); refine Gx<|Zl<|Gz rfl<|Va rfl<|Zr rfl<|Gm ?_; rotate_left; (exfalso; omega)
        refine ⟨(j + 1), Kg, Kh, ?_, ?_⟩
        · exact ⟨rfl, Ka⟩
        · omega
      · obtain rfl : j = knd p k := by omega
        have h1 : ((matV p (bsm p p.length))[k]'Ka)[knd p k]'Ka = 1 := by rw [hma, show bsm p p.length k (knd p k) = true from g2]; rfl
        focus
          have szE4 := E4.size; have szE2 := E2.size; refine Gt<|Gs<|Gz rfl<|Zh v rfl<|Zm Kq rfl h<|Zo rfl<|Gm<|Gq rfl (fun h3 => ?_) (fun h3 => ?_); refine Gx<|Gt<|Gy<|Gs<|Zh um rfl<|Gz rfl<|Vm Kq Kv Ja rfl (fun _ => rfl) rfl rM E4 rfl Kf ?_; rintro _ u2 hu1; refine Gz rfl<|Vm Kn Kl Km rfl (fun _ => rfl) rfl hu1 E4 rfl Kf ?_; rintro _ _ rfl; refine Zs rfl<|Gm<|Gq rfl (fun h4 => ?_) (fun h4 => ?_); refine Gs<|Zh uk rfl<|Gz rfl<|Zw (ps := [(0, .int _ _)]) (cs := [_]) rfl Kn Kl Jg rfl rfl rfl rfl ?_; rintro b2 w4 hb2 E5 hB1 hHb2; have hs3 := E5.size
          refine Yf rfl Ug rfl rfl hB1 (hO1.toB.ext E5) Owned.int (Nat.le_refl _) Kf Ka Ka ((E2.trans E4).trans E5) Ka ?_; have hT1 := (hO1.toB.ext E5); rintro v1 w6 hO1 E6 M1; have E7 := M1.ext hT1 (E4.trans E5) Ka; refine Vn v1 rfl<|Gm<|Ve ?_; refine exitX_other rfl ?_; refine Zi ?_; refine Zl<|Gz rfl<|Va rfl<|Zr rfl<|Gm ?_; rotate_left; contradiction; (exfalso; omega)
        refine ⟨((k + 1, v1)), Kg, Kh, ?_, ?_⟩
        · refine ⟨by exact E7, Ka, ?_⟩
          rw [Vl _ _ Ka, Uy]
          exact hO1
        · simp only; omega
    · obtain rfl : k = p.length := by omega
      rw [List.take_of_length_le Ka] at hO1
      have rK := hO1.read
      clear hO1
      focus
        have szE4 := E4.size; refine Gt<|Gs<|Gz rfl<|Zh v rfl<|Zm Kq rfl h<|Zo rfl<|Gm<|Gq rfl (fun h2 => ?_) (fun h2 => ?_); contradiction; refine Ve ?_; refine Zi ?_; refine Gs<|Zw (ps := [(0, .int _ _)]) (cs := [_]) rfl Kn Kl Jg rfl rfl rfl rfl ?_; rintro b2 w5 hb2 E5 hB1 hHb2; refine Vr rfl<|Gm<|Gt<|Gs<|Zr rfl<|Gm<|Gy ?_
      have hO2 : Owned w4.heap.size XI w5 (.slice (some ⟨b2, 0, none⟩) 1 1) (ints [0]) := Owned.block hHb2 hb2 rfl Kc ⟨⟨rfl, rfl⟩, trivial⟩
      clear hHb2 hB1
      refine Vf [9, 10, 11, 12, 13, 52, 53, 54, 55, 56, 57, 58, 59, 60, 61, 62, 63, 64, 65, 66, 67, 68, 69, 70, 71, 72, 73, 74, 75, 76, 77, 78, 79, 80, 81, 82, 83, 84, 85, 86, 87, 88, 89, 90, 91, 92, 93, 94, 95, 96, 97, 98, 99, 100] (fun ((t, u, L) : Nat × Value × List Nat) => [(10, .int .i64 (t : Nat)), (9, u)]) (fun (t, u, L) w' => Ext w4 w' ∧ Owned w4.heap.size XI w' u (ints L) ∧ Wlk p L ∧ t ≤ L.length ∧ ∀ x ∈ L.take t, ∀ j ∈ arr p x, knd p j ∈ L.map (knd p)) (fun x => p.length - x.1) (0, .slice (some ⟨b2, 0, none⟩) 1 1, [0]) Kg ?_ ?_
      · exact ⟨by exact E5, hO2, Wlk.zero, Nat.zero_le _, Ki⟩
      clear hO2
      rintro ⟨t, u, L⟩ ρl w6 ⟨E6, hO2, hW, ht, hcl⟩
      have hLl := hW.len hp
      have hLil := Yg L
      by_cases htl : t < L.length
      · obtain ⟨X, hX⟩ : ∃ X, X = L[t] := ⟨_, rfl⟩
        have hXl : X < p.length := hX ▸ hW.lt hp (List.getElem_mem htl)
        have hrow := hp.row hXl
        focus
          refine Gt<|Gs<|Gz rfl<|Zh u rfl<|Zm Kn rfl (Owned.read hO2)<|Zo rfl<|Gm<|Gq rfl (fun h3 => ?_) (fun h3 => ?_); refine Gx<|Gt<|Gy<|Gs<|Zr rfl<|Gm<|Gy ?_; rotate_left; (exfalso; omega)
        refine Vf [9, 11, 12, 13, 58, 59, 60, 61, 62, 63, 64, 65, 66, 67, 68, 69, 70, 71, 72, 73, 74, 75, 76, 77, 78, 79, 80, 81, 82, 83, 84, 85, 86, 87, 88, 89, 90, 91, 92, 93, 94, 95, 96, 97, 98, 99, 100] (fun ((j, u, L') : Nat × Value × List Nat) => [(11, .int .i64 (j : Nat)), (9, u)]) (fun (j, u, L') w' => Ext w4 w' ∧ j ≤ p.length ∧ Owned w4.heap.size XI w' u (ints L') ∧ Wlk p L' ∧ (∃ e, L' = L ++ e) ∧ ∀ j' ∈ arr p X, j' < j → knd p j' ∈ L'.map (knd p)) (fun x => p.length - x.1) (0, u, L) Kg ?_ ?_
        · exact ⟨by exact E6, Nat.zero_le _, hO2, hW, ⟨[], Ki⟩, fun j' _ h => Ka⟩
        clear hO2
        rintro ⟨j, u', L'⟩ ρm w7 ⟨E7, hj, hO2, hW', ⟨e, he⟩, hcl'⟩
        have hLl' := hW'.len hp
        have hLil' := Yg L'
        have htl' : t < L'.length := by rw [he]; simp; omega
        have hXt : L'[t] = X := by simp only [he]; rw [List.getElem_append_left htl, hX]
        have hXm : X ∈ L' := hXt ▸ List.getElem_mem htl'
        have hgt : (ints L')[t]'Ka = (X : Int) := by rw [Xr htl', hXt]
        by_cases hjl : j < p.length
        · have hgX : (p[((ints L')[t]'Ka).toNat]'(by rw [hgt]; omega)) = p[X] := by simp only [hgt, Int.toNat_natCast]
          have hgXl : (p[((ints L')[t]'Ka).toNat]'(by rw [hgt]; omega)).length = p.length := by rw [hgX]; exact hrow
          have hgXj : (p[((ints L')[t]'Ka).toNat]'(by rw [hgt]; omega))[j]'Ka = p[X][j] := by simp only [hgt, Int.toNat_natCast]
          have harX : j ∈ arr p X ↔ p[X][j] = 1 := by
            rw [Rg hp hXl]; unfold bit; rw [Vg hXl, Vg (show j < p[X].length by omega)]
            exact ⟨fun h => h.2, fun h => ⟨hjl, h⟩⟩
          focus
            have szE7 := E7.size; refine Gt<|Gs<|Gz rfl<|Zh v rfl<|Zm Kq rfl h<|Zo rfl<|Gm<|Gq rfl (fun h4 => ?_) (fun h4 => ?_); refine Gx<|Gt<|Gy<|Gs<|Zh v rfl<|Zh u' rfl<|Gz rfl<|Vm Kn Kl Km rfl (fun _ => rfl) rfl (Owned.read hO2) (Ext.refl _) rfl Kf ?_; rintro _ _ rfl; refine Re Kq Kv Ja rfl (fun _ => rfl) rfl h exq rfl Kf ?_; rintro _ u2 hu1; refine Gz rfl<|Vm Kn Kl Km rfl (fun _ => rfl) rfl hu1 exq rfl Kf ?_; rintro _ _ rfl; refine Zs rfl<|Zc rfl<|Gm<|Gt<|Gs<|Zr rfl<|Gm<|Gy ?_; rotate_left; (exfalso; omega)
          refine Vf [12, 13, 75, 76, 77, 78, 79, 80, 81, 82, 83, 84, 85, 86, 87, 88, 89, 90, 91, 92, 93, 94, 95] (fun ((m, f) : Nat × Bool) => [(13, .int .i64 (m : Nat)), (12, .bool f)]) (fun (m, f) w' => Ext w7 w' ∧ m ≤ L'.length ∧ (f = true ↔ j ∈ arr p X ∧ knd p j ∉ (L'.take m).map (knd p))) (fun x => L'.length - x.1) (0, decide ((p[((ints L')[t]'Ka).toNat]'(by rw [hgt]; omega))[j]'Ka = 1)) Kg ?_ ?_
          · refine ⟨Ext.refl _, Nat.zero_le _, ?_⟩
            rw [decide_eq_true_iff, hgXj, harX]; simp
          rintro ⟨m, f⟩ ρn w9 ⟨E9, hm, hf⟩
          by_cases hml2 : m < L'.length
          · have hLm := hW'.lt hp (List.getElem_mem hml2)
            have hgm : (ints L')[m]'Ka = (L'[m] : Int) := Xr hml2
            have hkm : (ints (kndL p))[((ints L')[m]'Ka).toNat]'(by rw [hgm, hkl]; omega) = (knd p L'[m] : Int) := by
              simp only [hgm, Int.toNat_natCast]; exact Uy _
            have hkj : (ints (kndL p))[j]'Ka = (knd p j : Int) := Uy _
            have hts := Vl _ _ hml2
            have bm : ((ints L')[m]'Ka).toNat < (ints (kndL p)).length := by rw [hkl, hgm]; omega
            cases f
            · focus
                refine Gt<|Gs<|Gz rfl<|Zh u' rfl<|Zm Kn rfl (Owned.read hO2)<|Zo rfl<|Gm<|Gq rfl (fun h5 => ?_) (fun h5 => ?_); refine Gx<|Gt<|Gy<|Yr Yn Kb rfl ?_; refine Ur rfl<|Ur rfl<|Gw rfl<|Gw rfl<|Gw rfl<|Gw rfl<|Gw rfl<|Gw rfl<|Gw rfl<|Gw rfl<|Gw rfl<|Gw rfl<|Gw rfl<|Gw rfl<|Un rfl<|Sq rfl<|Yp (fun w8 E8 => ?_); refine Zl<|Gz rfl<|Va rfl<|Zr rfl<|Gm ?_; rotate_left; (exfalso; omega)
              refine ⟨((m + 1, false)), Kg, Kh, ?_, ?_⟩
              · refine ⟨by exact exq, Ka, ⟨fun h => (by cases h), fun h => ?_⟩⟩
                rw [hts, List.map_append, List.mem_append, not_or] at h
                exact absurd (hf.2 ⟨h.1, h.2.1⟩) Ki
              · simp only; omega
            · focus
                refine Gt<|Gs<|Gz rfl<|Zh u' rfl<|Zm Kn rfl (Owned.read hO2)<|Zo rfl<|Gm<|Gq rfl (fun h5 => ?_) (fun h5 => ?_); refine Gx<|Gt<|Gy<|Yr Yn Kb rfl ?_; refine Ur rfl<|Ur rfl<|Um uk rfl<|Um u' rfl<|Qc rfl<|Xk Kn Kl Km rfl (fun _ => rfl) rfl (Owned.read hO2) E9 rfl Kf ?_; rintro _ _ rfl; refine Rc Kn Kl Km rfl (fun _ => rfl) rfl rK exq rfl Kf ?_; rintro _ _ rfl; refine Um uk rfl<|Qc rfl<|Xk Kn Kl Km rfl (fun _ => rfl) rfl rK exq rfl Kf ?_; rintro _ _ rfl; refine Wqneq rfl<|Ux rfl<|Sq rfl<|Yp (fun w8 E8 => ?_)
                refine Zl<|Gz rfl<|Va rfl<|Zr rfl<|Gm ?_; rotate_left; (exfalso; omega)
              refine ⟨((m + 1, !decide ((ints (kndL p))[((ints L')[m]'Ka).toNat]'bm = (ints (kndL p))[j]'Ka))), Kg, Kh, ?_, ?_⟩
              · refine ⟨by exact exq, Ka, ?_⟩
                rw [hkm, hkj, hts, List.map_append, List.mem_append, not_or]
                have hf' := hf.1 rfl
                simp only [List.map_cons, List.map_nil, List.mem_singleton, Bool.not_eq_true', decide_eq_false_iff_not]
                constructor
                · intro h; exact ⟨hf'.1, hf'.2, fun e => h (by rw [e])⟩
                · intro h e; exact h.2.2 Ka
              · simp only; omega
          · obtain rfl : m = L'.length := by omega
            rw [List.take_length] at hf
            cases f
            · focus
                refine Gt<|Gs<|Gz rfl<|Zh u' rfl<|Zm Kn rfl (Owned.read hO2)<|Zo rfl<|Gm<|Gq rfl (fun h5 => ?_) (fun h5 => ?_); (exfalso; omega); refine Ve ?_; refine Zi ?_; refine Gs<|Vq rfl<|Gm<|Za rfl ?_; refine Gx<|Zl<|Gz rfl<|Va rfl<|Zr rfl<|Gm ?_
              refine ⟨((j + 1, u', L')), Kg, Kh, ?_, ?_⟩
              · refine ⟨by exact exq, Ka, by exact (Mono.mono E9 hO2), hW', ⟨e, he⟩, fun j' h1 h2 => ?_⟩
                rcases Nat.lt_or_ge j' j with h3 | h3
                · exact hcl' j' h1 h3
                · obtain rfl : j' = j := by omega
                  exact Classical.byContradiction fun h => absurd (hf.2 ⟨h1, h⟩) Ki
              · simp only; omega
            · obtain ⟨hf1, hf2⟩ := hf.1 rfl
              focus
                have szE9 := E9.size; have szE7 := E7.size; refine Gt<|Gs<|Gz rfl<|Zh u' rfl<|Zm Kn rfl (Owned.read hO2)<|Zo rfl<|Gm<|Gq rfl (fun h5 => ?_) (fun h5 => ?_); (exfalso; omega); refine Ve ?_; refine Zi ?_; refine Gs<|Vq rfl<|Gm<|Vj rfl ?_; refine Zl<|Zh u' rfl<|Gz rfl<|Zw (ps := [(0, .int _ _)]) (cs := [_]) rfl Kn Kl Jg rfl rfl rfl rfl ?_; rintro b3 w8 hb3 E8 hB1 hHb3; have hs4 := E8.size; refine Yf rfl Ug rfl rfl hB1 (hO2.toB.ext (E9.trans E8)) Owned.int (Nat.le_refl _) Kf Ka Ka ((((E2.trans E4).trans E7).trans E9).trans E8) Ka ?_; have hT1 := (hO2.toB.ext (E9.trans E8)); rintro v1 w10 hO2 E10 M1; have E12 := M1.ext hT1 ((E7.trans E9).trans E8) Ka
                have hB1 := hB1.moves M1 hT1 Ka; refine Vn v1 rfl<|Gm<|Zl<|Gz rfl<|Va rfl<|Zr rfl<|Gm ?_
              refine ⟨((j + 1, v1, L' ++ [j])), Kg, Kh, ?_, ?_⟩
              · refine ⟨by exact E12, Ka, ?_, hW'.step hXm hf1 hf2, ⟨e ++ [j], by rw [he, List.append_assoc]⟩, fun j' h1 h2 => ?_⟩
                · rw [ints_append]; assumption
                · rw [List.map_append, List.mem_append]
                  rcases Nat.lt_or_ge j' j with h3 | h3
                  · exact .inl (hcl' j' h1 h3)
                  · obtain rfl : j' = j := by omega
                    exact .inr Ki
              · simp only; omega
        · obtain rfl : j = p.length := by omega
          focus
            refine Gt<|Gs<|Gz rfl<|Zh v rfl<|Zm Kq rfl h<|Zo rfl<|Gm<|Gq rfl (fun h4 => ?_) (fun h4 => ?_); contradiction; refine Ve ?_; refine Zi ?_; refine Zl<|Gz rfl<|Va rfl<|Zr rfl<|Gm ?_
          refine ⟨((t + 1, u', L')), Kg, Kh, ?_, ?_⟩
          · refine ⟨by exact E7, by exact hO2, hW', Ka, fun x hx j' hj' => ?_⟩
            rw [Vl _ _ htl'] at hx
            rcases List.mem_append.1 hx with hx | hx
            · have hx2 : x ∈ L.take t := by rw [he, List.take_append_of_le_length Ka] at hx; exact hx
              have := hcl x hx2 j' hj'
              rw [he, List.map_append]
              exact List.mem_append_left _ this
            · rw [List.mem_singleton.1 hx, hXt] at hj'
              exact hcl' j' hj' (Xb hp hXl hj')
          · simp only; omega
      · obtain rfl : t = L.length := by omega
        rw [List.take_length] at hcl
        have hKds := hW.kds hp hcl
        have hLlt : ∀ x ∈ L, x < p.length := fun x hx => hW.lt hp hx
        have hC : Cand p 0 (qp p (L.map (knd p))) := ⟨_, hKds, rfl⟩
        have hcl2 : (qp p (L.map (knd p))).length = L.length := by rw [qp_len, List.length_map]
        have hll := lst_len hp hp1 hC
        rw [hcl2] at hll
        by_cases h5 : L.length ≤ 5
        · have h5' : (lst p 0).length ≤ 5 := by omega
          have hPc := hC.pic hp hp1 Ka
          have k4 : ∀ (w : World) (v u t : Value), ESl Ints w v p → Ints w u (ints (kndL p)) → Ints w t (ints L) → Does Tryz.prog 195 [v, u, t] w (RetO w XR (qp p (L.map (knd p)))) := fun w v u t h1 h2 h3 => by
            rw [← ptV_qp hp hLlt]
            refine l4Part_ok w v u t p _ _ h1 h2 h3 hp hkl (fun x hx => ?_) (by rw [Yg]; omega)
            obtain ⟨y, hy, rfl⟩ := List.mem_map.1 hx
            have := hLlt y hy
            omega
          have k5 : ∀ (w : World) (v : Value), ESl Ints w v (qp p (L.map (knd p))) → Does Tryz.prog 126 [v, .int .i64 0] w (RetO w XR (lst p 0)) := fun w v h => by
            have := Qg w v _ h 0
            rw [if_pos ⟨hPc, Kc, by have := hPc.1; omega⟩] at this
            rw [(lst_same hp (hC.gr hp hp1) hp1 hPc.1).2 (hC.bis hp hp1)]
            exact this
          rw [if_pos h5', decide_eq_true h5']
          focus
            have szE6 := E6.size; refine Gt<|Gs<|Gz rfl<|Zh u rfl<|Zm Kn rfl (Owned.read hO2)<|Zo rfl<|Gm<|Gq rfl (fun h3 => ?_) (fun h3 => ?_); (exfalso; omega); refine Ve ?_; refine Zi ?_; refine Gt<|Gs<|Zh u rfl<|Zm Kn rfl (Owned.read hO2)<|Yt rfl<|Gm<|Gq rfl (fun h4 => ?_) (fun h4 => ?_); (exfalso; omega); refine Gx<|Gt<|Zl<|Zh v rfl<|Zh uk rfl<|Zh u rfl<|Gu rfl (Sy (a := v) (b := uk) (c := u) Tryz.call195 rfl rfl rfl) (k4 _ _ _ _ ((Mono.mono exq h)) ((Mono.mono E6 rK)) ((Owned.read hO2))) ?_; rintro u2 w7 ⟨E7, hO1⟩; have hs4 := E7.size; refine Gu rfl (Vb (a := u2) (b := .int _ _) Jx rfl rfl) (k5 _ _ ((Owned.read hO1))) ?_; rintro u3 w8 ⟨E8, hO3⟩; refine Vn u3 rfl ?_
            refine Zc rfl<|Gm<|Zd ?_; refine Zk (v := .tuple #[u3, .bool _]) rfl ?_; exact ⟨_, rfl, exq, hO3.toB.o.mono Ka⟩
        · have h5' : ¬ (lst p 0).length ≤ 5 := by omega
          rw [if_neg h5', decide_eq_false h5']
          focus
            have szE6 := E6.size; refine Gt<|Gs<|Gz rfl<|Zh u rfl<|Zm Kn rfl (Owned.read hO2)<|Zo rfl<|Gm<|Gq rfl (fun h3 => ?_) (fun h3 => ?_); (exfalso; omega); refine Ve ?_; refine Zi ?_; refine Gt<|Gs<|Zh u rfl<|Zm Kn rfl (Owned.read hO2)<|Yt rfl<|Gm<|Gq rfl (fun h4 => ?_) (fun h4 => ?_); refine Gs<|Yb (XSl 3 XInt) rfl Ui Kv ?_; rintro b3 w7 hb3 b3lt E7 hO1; refine Vr rfl<|Zc rfl<|Gm<|Zd ?_; refine Zk (v := .tuple #[.slice _ _ _, .bool _]) rfl ?_; exact ⟨_, rfl, exq, hO1.toB.o.mono Ka⟩; (exfalso; omega)
end Go.Proofs.YtbgpppaljpngmaaGreatDoor
namespace Go.Proofs.YtbgpppaljpngmaaGreatDoor
open Go.Hs
set_option maxRecDepth 10000
set_option maxHeartbeats 4000000
set_option linter.unusedVariables false
set_option linter.unusedSimpArgs false
theorem l6Least_put (w : World) (v : Value) (g : List (List Int)) (ms : List Nat) (h : ESl Ints w v (put g ms)) (hg : Gr g) (hn : g.length ≤ 10) :
    Does Tryz.prog 175 [v] w (RetOB w XR (og (putV g ms)) (putV g ms).isSome) := by
  rw [putV_og, putV_is]
  exact l6Least_ok w v _ h (put_gr hg hn)
theorem PairOf_ok (w : World) (v u : Value) (p q : List (List Int)) (h : ESl Ints w v p) (h' : ESl Ints w u q) (a b : Nat) (ha : Nod p a) (hb : Nod q b) : Does Tryz.prog 141 [v, .int .i64 (a : Int), u, .int .i64 (b : Int)] w (RetOB w XR (og (pairV p a q b)) (pairV p a q b).isSome) := by
  have la : a < p.length := by have := ha.2; omega
  have lb : b < q.length := by have := hb.2; omega
  have hle := h.le
  have hle' := h'.le
  have hG := ha.1.bes5 hb.1
  have n1 : ∀ (w : World) (v : Value), ESl Ints w v p → Does Tryz.prog 118 [v, .int .i64 (a : Int)] w (Ret w (.bool true)) := fun w v h => by
    have := Qw w v p h (a : Int); rwa [decide_eq_true ha] at this
  have n2 : ∀ (w : World) (v : Value), ESl Ints w v q → Does Tryz.prog 118 [v, .int .i64 (b : Int)] w (Ret w (.bool true)) := fun w v h => by
    have := Qw w v q h (b : Int); rwa [decide_eq_true hb] at this
  have k1 : ∀ (w : World) (v u vl vr : Value), ESl Ints w v p → ESl Ints w u q → Ints w vl [(a : Int)] → Ints w vr [(b : Int)] → Does Tryz.prog 176 [v, u, vl, vr] w (RetO w XR (put (bes p q) [a, p.length + b])) := fun w v u vl vr h1 h2 h3 h4 =>
    l6Put_ok w v u vl vr p q [a] [b] h1 h2 h3 h4 ha.1 (.inl hb.1) (fun x hx => by rw [List.mem_singleton.1 hx]; exact la) (fun x hx => by rw [List.mem_singleton.1 hx]; exact lb) Ki Ki
  have k2 : ∀ (w : World) (v : Value), ESl Ints w v (put (bes p q) [a, p.length + b]) → Does Tryz.prog 175 [v] w (RetOB w XR (og (pairV p a q b)) (pairV p a q b).isSome) := fun w v h => l6Least_put w v _ _ h hG.1 hG.2
  refine Ul Tryz.func141 rfl Tryz.results141 Tryz.ntmps141 rfl ?_
  have litown : True := trivial
  focus
    refine Gs<|Vr rfl<|Zc rfl<|Gm<|Gt<|Gs<|Zh v rfl<|Gz rfl<|Gu rfl (Vb (a := v) (b := .int _ _) Gh rfl rfl) (n1 _ _ (h)) ?_; rintro _ w1 ⟨rfl, E1⟩; have hs1 := E1.size; refine Vt rfl<|Vx rfl (Zt (v := .bool _) rfl) (fun h1 => ?_) (fun h1 => ?_); contradiction; refine Zh u rfl<|Gz rfl<|Gu rfl (Vb (a := u) (b := .int _ _) Gh rfl rfl) (n2 _ _ ((Mono.mono E1 h'))) ?_; rintro _ w2 ⟨rfl, E2⟩; have hs2 := E2.size; refine Vt rfl<|Vc rfl<|Gm<|Vv rfl (fun h2 => ?_) (fun h2 => ?_); contradiction; refine Gx<|Gs<|Zh v rfl<|Zh u rfl<|Gz rfl ?_
    refine Zw (ps := [(0, .int _ _)]) (cs := [_]) rfl Kn Kl Jg rfl rfl rfl rfl ?_; rintro b1 w3 hb1 E3 hB1 hHb1; have hlb1 := hB1.lt; have hLb1 := own_lit1 hHb1 hb1; clear hHb1; have hs3 := E3.size; refine Gz rfl<|Zw (ps := [(0, .int _ _)]) (cs := [_]) rfl Kn Kl Jg rfl rfl rfl rfl ?_; rintro b2 w4 hb2 E4 hB2 hHb2; have hlb2 := hB2.lt; have hLb2 := own_lit1 hHb2 hb2; clear hHb2; have hs4 := E4.size; refine Gu rfl (Tl (a := v) (b := u) (c := .slice _ _ _) (d := .slice _ _ _) Tryz.call176 rfl rfl rfl rfl) (k1 _ _ _ _ _ ((Mono.mono exq h)) ((Mono.mono exq h')) ((Mono.mono E4 (Owned.read hLb1))) ((Owned.read hLb2))) ?_
    rintro u1 w5 ⟨E5, hO1⟩; have ichO1 := OwnedB.isC (Owned.toB hO1); have hs5 := E5.size; refine Gu rfl (Vh (a := u1) Tryz.call175 rfl) (k2 _ _ ((Owned.read hO1))) ?_; rintro _ w6 ⟨u2, rfl, E6, hO2⟩; have ichO2 := OwnedB.isC (Owned.toB hO2); have hs6 := E6.size; refine Xo u2 rfl<|Yz rfl<|Vn u2 rfl<|Zc rfl<|Gm<|Zd ?_; refine Zk (v := .tuple #[u2, .bool _]) rfl ?_; exact ⟨_, rfl, exq, hO2.toB.o.mono Ka⟩
theorem TogetherOf_ok (w : World) (v u : Value) (p q : List (List Int)) (h : ESl Ints w v p) (h' : ESl Ints w u q) (a b : Nat) (ha : Nod p a) (hb : Nod q b) : Does Tryz.prog 142 [v, .int .i64 (a : Int), u, .int .i64 (b : Int)] w (RetOB w XR (og (togV p a q b)) (togV p a q b).isSome) := by
  have la : a < p.length := by have := ha.2; omega
  have lb : b < q.length := by have := hb.2; omega
  have hle := h.le
  have hle' := h'.le
  have hG := ha.1.bes5 hb.1
  have n1 : ∀ (w : World) (v : Value), ESl Ints w v p → Does Tryz.prog 118 [v, .int .i64 (a : Int)] w (Ret w (.bool true)) := fun w v h => by
    have := Qw w v p h (a : Int); rwa [decide_eq_true ha] at this
  have n2 : ∀ (w : World) (v : Value), ESl Ints w v q → Does Tryz.prog 118 [v, .int .i64 (b : Int)] w (Ret w (.bool true)) := fun w v h => by
    have := Qw w v q h (b : Int); rwa [decide_eq_true hb] at this
  have c1 : ∀ (w : World) (v : Value), ESl Ints w v p → Does Tryz.prog 119 [v, .int .i64 (a : Int)] w (RetO w XI (ints (arr p a))) := fun w v h => St w v p h ha.1.gr a la
  have c2 : ∀ (w : World) (v : Value), ESl Ints w v q → Does Tryz.prog 119 [v, .int .i64 (b : Int)] w (RetO w XI (ints (arr q b))) := fun w v h => St w v q h hb.1.gr b lb
  have k1 : ∀ (w : World) (v u vl vr : Value), ESl Ints w v p → ESl Ints w u q → Ints w vl (ints (arr p a)) → Ints w vr (ints (arr q b)) → Does Tryz.prog 176 [v, u, vl, vr] w (RetO w XR (put (bes p q) (arr p a ++ (arr q b).map (p.length + ·)))) := fun w v u vl vr h1 h2 h3 h4 =>
    l6Put_ok w v u vl vr p q _ _ h1 h2 h3 h4 ha.1 (.inl hb.1) (fun x hx => Xb ha.1.gr la hx) (fun x hx => Xb hb.1.gr lb hx) (by have := arr_le ha.1.gr la; have := ha.1.2.1; omega) (by have := arr_le hb.1.gr lb; have := hb.1.2.1; omega)
  have k2 : ∀ (w : World) (v : Value), ESl Ints w v (put (bes p q) (arr p a ++ (arr q b).map (p.length + ·))) → Does Tryz.prog 175 [v] w (RetOB w XR (og (togV p a q b)) (togV p a q b).isSome) := fun w v h => by
    rw [togV_eq ha.1.gr hb.1.gr la lb]
    exact l6Least_put w v _ _ h hG.1 hG.2
  refine Ul Tryz.func142 rfl Tryz.results142 Tryz.ntmps142 rfl ?_
  focus
    refine Gs<|Vr rfl<|Zc rfl<|Gm<|Gt<|Gs<|Zh v rfl<|Gz rfl<|Gu rfl (Vb (a := v) (b := .int _ _) Gh rfl rfl) (n1 _ _ (h)) ?_; rintro _ w1 ⟨rfl, E1⟩; have hs1 := E1.size; refine Vt rfl<|Vx rfl (Zt (v := .bool _) rfl) (fun h1 => ?_) (fun h1 => ?_); contradiction; refine Zh u rfl<|Gz rfl<|Gu rfl (Vb (a := u) (b := .int _ _) Gh rfl rfl) (n2 _ _ ((Mono.mono E1 h'))) ?_; rintro _ w2 ⟨rfl, E2⟩; have hs2 := E2.size; refine Vt rfl<|Vc rfl<|Gm<|Vv rfl (fun h2 => ?_) (fun h2 => ?_); contradiction; refine Gx<|Gs<|Zh v rfl<|Zh u rfl<|Zh v rfl<|Gz rfl<|Gu rfl (Vb (a := v) (b := .int _ _) Gl rfl rfl) (c1 _ _ ((Mono.mono exq h))) ?_; rintro u1 w3 ⟨E3, hO1⟩; have hs3 := E3.size; refine Zh u rfl ?_
    refine Gz rfl<|Gu rfl (Vb (a := u) (b := .int _ _) Gl rfl rfl) (c2 _ _ ((Mono.mono exq h'))) ?_; rintro u2 w4 ⟨E4, hO2⟩; have hs4 := E4.size; refine Gu rfl (Tl (a := v) (b := u) (c := u1) (d := u2) Tryz.call176 rfl rfl rfl rfl) (k1 _ _ _ _ _ ((Mono.mono exq h)) ((Mono.mono exq h')) ((Mono.mono E4 (Owned.read hO1))) ((Owned.read hO2))) ?_; rintro u3 w5 ⟨E5, hO3⟩; have hs5 := E5.size; refine Gu rfl (Vh (a := u3) Tryz.call175 rfl) (k2 _ _ ((Owned.read hO3))) ?_; rintro _ w6 ⟨u4, rfl, E6, hO4⟩; have hs6 := E6.size; refine Xo u4 rfl<|Yz rfl<|Vn u4 rfl<|Zc rfl<|Gm<|Zd ?_; refine Zk (v := .tuple #[u4, .bool _]) rfl ?_; exact ⟨_, rfl, exq, hO4.toB.o.mono Ka⟩
open Classical in
theorem WithoutSet_ok (w : World) (v u : Value) (p q : List (List Int)) (h : ESl Ints w v p) (h' : ESl Ints w u q) (a b : Nat) (ha : Nod p a) (hb : Nod q b) : Does Tryz.prog 143 [v, .int .i64 (a : Int), u, .int .i64 (b : Int)] w (RetOB w XR (og (wosV p a q b)) (wosV p a q b).isSome) := by
  have la : a < p.length := by have := ha.2; omega
  have lb : b < q.length := by have := hb.2; omega
  have hle := h.le
  have hle' := h'.le
  have n1 : ∀ (w : World) (v : Value), ESl Ints w v p → Does Tryz.prog 118 [v, .int .i64 (a : Int)] w (Ret w (.bool true)) := fun w v h => by
    have := Qw w v p h (a : Int); rwa [decide_eq_true ha] at this
  have n2 : ∀ (w : World) (v : Value), ESl Ints w v q → Does Tryz.prog 118 [v, .int .i64 (b : Int)] w (Ret w (.bool true)) := fun w v h => by
    have := Qw w v q h (b : Int); rwa [decide_eq_true hb] at this
  have c1 : ∀ (w : World) (v : Value), ESl Ints w v p → Does Tryz.prog 119 [v, .int .i64 (a : Int)] w (RetO w XI (ints (arr p a))) := fun w v h => St w v p h ha.1.gr a la
  have hal := arr_le ha.1.gr la
  have hail := Yg (arr p a)
  have hp5 := ha.1.2.1
  refine Ul Tryz.func143 rfl Tryz.results143 Tryz.ntmps143 rfl ?_
  focus
    refine Gs<|Vr rfl<|Zc rfl<|Gm<|Gt<|Gs<|Zh v rfl<|Gz rfl<|Gu rfl (Vb (a := v) (b := .int _ _) Gh rfl rfl) (n1 _ _ (h)) ?_; rintro _ w1 ⟨rfl, E1⟩; have hs1 := E1.size; refine Vt rfl<|Vx rfl (Zt (v := .bool _) rfl) (fun h1 => ?_) (fun h1 => ?_); contradiction; refine Zh u rfl<|Gz rfl<|Gu rfl (Vb (a := u) (b := .int _ _) Gh rfl rfl) (n2 _ _ ((Mono.mono E1 h'))) ?_; rintro _ w2 ⟨rfl, E2⟩; have hs2 := E2.size; refine Vt rfl<|Vc rfl<|Gm<|Vv rfl (fun h2 => ?_) (fun h2 => ?_); contradiction; refine Gx<|Gs<|Yb XInt rfl Ug Kl ?_; rintro b1 w3 hb1 b1lt E3 hO1; have hs3 := E3.size; refine Vr rfl<|Gm<|Gs ?_
    refine Zh v rfl<|Gz rfl<|Gu rfl (Vb (a := v) (b := .int _ _) Gl rfl rfl) (c1 _ _ ((Mono.mono exq h))) ?_; rintro u1 w4 ⟨E4, hO2⟩; have hs4 := E4.size; refine Vn u1 rfl<|Gm<|Gt<|Gs<|Zr rfl<|Gm<|Gy ?_
  have hO3 : Owned w.heap.size XI w4 (.slice (some ⟨b1, 0, none⟩) 0 0) (ints []) := (hO1.ext E4).mono Ka
  have hBe : Besides (Value.ownBlock (.slice (some ⟨b1, 0, none⟩) 0 0)) Ints w4 u1 (ints (arr p a)) := Besides.start hO1 hO2.above
  clear hO1 hO2
  have E0 : Ext w w4 := by exact (((E1.trans E2).trans E3).trans E4)
  refine Vf [10, 12, 28, 29, 30, 31, 32, 33, 34, 35, 36, 37, 38, 39, 40, 41, 42, 43, 44, 45, 46, 47, 48, 49] (fun ((k, u, L) : Nat × Value × List Nat) => [(12, .int .i64 (k : Nat)), (10, u)]) (fun (k, u, L) w' => Ext w w' ∧ k ≤ (arr p a).length ∧ Owned w.heap.size XI w' u (ints L) ∧ Besides u.ownBlock Ints w' u1 (ints (arr p a)) ∧ L = ((arr p a).take k).filter fun v => !decide (Bis p v q b)) (fun x => (arr p a).length - x.1) (0, .slice (some ⟨b1, 0, none⟩) 0 0, []) Kg ?_ ?_
  · exact ⟨by exact E0, Nat.zero_le _, hO3, hBe, Ki⟩
  clear hO3 hBe
  rintro ⟨k, uk, L⟩ ρj w5 ⟨E5, hk, hO3, hBe, hL⟩
  have hLle : L.length ≤ (arr p a).length := by rw [hL]; exact Nat.le_trans (List.length_filter_le _ _) (by rw [List.length_take]; omega)
  have hLil := Yg L
  by_cases hkl : k < (arr p a).length
  · have hm := Xb ha.1.gr la (List.getElem_mem hkl)
    have hgk : (ints (arr p a))[k]'Ka = ((arr p a)[k] : Int) := Xr hkl
    have hts := Vl _ _ hkl
    have hnk : Nod p ((arr p a)[k] : Nat) := ⟨ha.1, Ka, Ka⟩
    by_cases hB : Bis p (arr p a)[k] q b
    · have k3 : ∀ (w : World) (v u : Value), ESl Ints w v p → ESl Ints w u q → Does Tryz.prog 121 [v, .int .i64 ((ints (arr p a))[k]'Ka), u, .int .i64 (b : Int)] w (Ret w (.bool true)) := fun w v u h1 h2 => by
        have := spec_SameSet_ok w v u p q h1 h2 (((arr p a)[k] : Nat) : Int) (b : Int) hnk hb
        rw [hgk]; simp only [Int.toNat_natCast] at this
        rwa [decide_eq_true hB] at this
      focus
        have szE5 := E5.size; have szE0 := E0.size; have szE4 := E4.size; have szE3 := E3.size; have szE2 := E2.size; have szE1 := E1.size; refine Gt<|Gs<|Gz rfl<|Zh u1 rfl<|Zm Kn rfl (Besides.here hBe)<|Zo rfl<|Gm<|Gq rfl (fun h3 => ?_) (fun h3 => ?_); refine Gx<|Gt<|Gy<|Gs<|Zh v rfl<|Zh u1 rfl<|Gz rfl<|Vm Kn Kl Km rfl (fun _ => rfl) rfl (Besides.here hBe) (Ext.refl _) rfl Kf ?_; rintro _ _ rfl; refine Zh u rfl<|Gz rfl<|Gu rfl (Tl (a := v) (b := .int _ _) (c := u) (d := .int _ _) Tryz.call121 rfl rfl rfl rfl) (k3 _ _ _ ((Mono.mono E5 h)) ((Mono.mono E5 h'))) ?_; rintro _ w6 ⟨rfl, E6⟩; have hs5 := E6.size
        refine Vt rfl<|Gm<|Vv rfl (fun h4 => ?_) (fun h4 => ?_); contradiction; refine Gx<|Zl<|Gz rfl<|Va rfl<|Zr rfl<|Gm ?_; rotate_left; (exfalso; omega)
      refine ⟨((k + 1, uk, L)), Kg, Kh, ?_, ?_⟩
      · refine ⟨by exact (E5.trans E6), Ka, by exact (Mono.mono E6 hO3), by exact (hBe.ext E6), ?_⟩
        rw [hL, hts, List.filter_append]; simp [hB]
      · simp only; omega
    · have k3 : ∀ (w : World) (v u : Value), ESl Ints w v p → ESl Ints w u q → Does Tryz.prog 121 [v, .int .i64 ((ints (arr p a))[k]'Ka), u, .int .i64 (b : Int)] w (Ret w (.bool false)) := fun w v u h1 h2 => by
        have := spec_SameSet_ok w v u p q h1 h2 (((arr p a)[k] : Nat) : Int) (b : Int) hnk hb
        rw [hgk]; simp only [Int.toNat_natCast] at this
        rwa [decide_eq_false hB] at this
      focus
        have szE5 := E5.size; have szE0 := E0.size; have szE4 := E4.size; have szE3 := E3.size; have szE2 := E2.size; have szE1 := E1.size; refine Gt<|Gs<|Gz rfl<|Zh u1 rfl<|Zm Kn rfl (Besides.here hBe)<|Zo rfl<|Gm<|Gq rfl (fun h3 => ?_) (fun h3 => ?_); refine Gx<|Gt<|Gy<|Gs<|Zh v rfl<|Zh u1 rfl<|Gz rfl<|Vm Kn Kl Km rfl (fun _ => rfl) rfl (Besides.here hBe) (Ext.refl _) rfl Kf ?_; rintro _ _ rfl; refine Zh u rfl<|Gz rfl<|Gu rfl (Tl (a := v) (b := .int _ _) (c := u) (d := .int _ _) Tryz.call121 rfl rfl rfl rfl) (k3 _ _ _ ((Mono.mono E5 h)) ((Mono.mono E5 h'))) ?_; rintro _ w6 ⟨rfl, E6⟩; have hs5 := E6.size
        refine Vt rfl<|Gm<|Vv rfl (fun h4 => ?_) (fun h4 => ?_); refine Zl<|Zh uk rfl<|Zh u1 rfl<|Gz rfl<|Vm Kn Kl Km rfl (fun _ => rfl) rfl (Besides.here hBe) E6 rfl Kf ?_; rintro _ _ rfl; refine Zw (ps := [(0, .int _ _)]) (cs := [_]) rfl Kn Kl Jg rfl rfl rfl rfl ?_; rintro b2 w7 hb2 E7 hB1 hHb2; have hlb2 := hB1.lt; have hs6 := E7.size; refine Yf rfl Ug rfl rfl hB1 (hO3.toB.ext (E6.trans E7)) Owned.int (Nat.le_refl _) Kf Ka Ka ((E5.trans E6).trans E7) Ka ?_; have hT1 := (hO3.toB.ext (E6.trans E7)); rintro v1 w8 hO3 E8 M1; have hBe := (hBe.ext exq).moves M1; have hB1 := hB1.moves M1 hT1 Ka; have hs7 := E8.size; refine Vn v1 rfl<|Gm<|Zl ?_
        refine Gz rfl<|Va rfl<|Zr rfl<|Gm ?_; rotate_left; contradiction; (exfalso; omega)
      refine ⟨((k + 1, v1, L ++ [(arr p a)[k]])), Kg, Kh, ?_, ?_⟩
      · refine ⟨by exact E8, Ka, ?_, by exact hBe, ?_⟩
        · rw [ints_append, show ints [(arr p a)[k]] = [(ints (arr p a))[k]'Ka] by rw [hgk]; rfl]
          assumption
        · rw [hL, hts, List.filter_append]; simp [hB]
      · simp only; omega
  · obtain rfl : k = (arr p a).length := by omega
    rw [List.take_length] at hL
    have hLm : ∀ x ∈ L, x < p.length := fun x hx => Xb ha.1.gr la (List.mem_filter.1 (hL ▸ hx)).1
    have rL := hO3.read
    have rA := hBe.here
    clear hO3 hBe
    have hpp := ha.1.gr
    have k1 : ∀ (w : World) (v u vl vr : Value), ESl Ints w v p → ESl Ints w u [] → Ints w vl (ints L) → Ints w vr [] → Does Tryz.prog 176 [v, u, vl, vr] w (RetO w XR (put (bes p []) (L ++ ([] : List Nat).map (p.length + ·)))) := fun w v u vl vr h1 h2 h3 h4 =>
      l6Put_ok w v u vl vr p [] _ [] h1 h2 h3 h4 ha.1 (.inr rfl) hLm (fun x hx => by cases hx) Ka Ki
    have k2 : ∀ (w : World) (v : Value), ESl Ints w v (put (bes p []) (L ++ ([] : List Nat).map (p.length + ·))) → Does Tryz.prog 175 [v] w (RetOB w XR (og (wosV p a q b)) (wosV p a q b).isSome) := fun w v h => by
      rw [wosV_eq, ← hL]
      exact l6Least_put w v _ _ h (by rw [bes_nil]; exact hpp) (by rw [bes_nil]; omega)
    focus
      have szE5 := E5.size; have szE0 := E0.size; have szE4 := E4.size; have szE3 := E3.size; have szE2 := E2.size; have szE1 := E1.size; refine Gt<|Gs<|Gz rfl<|Zh u1 rfl<|Zm Kn rfl rA<|Zo rfl<|Gm<|Gq rfl (fun h3 => ?_) (fun h3 => ?_); (exfalso; omega); refine Ve ?_; refine Zi ?_; refine Gs<|Zh v rfl<|Yb (XSl 3 XInt) rfl Ui Kv ?_; rintro b2 w6 hb2 b2lt E6 hO1; have hs5 := E6.size; refine Zh uk rfl<|Yb XInt rfl Ug Kl ?_; rintro b3 w7 hb3 b3lt E7 hO2; have hs6 := E7.size; refine Gu rfl (Tl (a := v) (b := .slice _ _ _) (c := uk) (d := .slice _ _ _) Tryz.call176 rfl rfl rfl rfl) (k1 _ _ _ _ _ ((Mono.mono exq h)) ((Mono.mono E7 (Owned.read hO1))) ((Mono.mono exq rL)) ((Owned.read hO2))) ?_
      rintro u2 w8 ⟨E8, hO3⟩; have hs7 := E8.size; refine Gu rfl (Vh (a := u2) Tryz.call175 rfl) (k2 _ _ ((Owned.read hO3))) ?_; rintro _ w9 ⟨u3, rfl, E9, hO4⟩; have hs8 := E9.size; refine Xo u3 rfl<|Yz rfl<|Vn u3 rfl<|Zc rfl<|Gm<|Zd ?_; refine Zk (v := .tuple #[u3, .bool _]) rfl ?_; exact ⟨_, rfl, exq, hO4.toB.o.mono Ka⟩
end Go.Proofs.YtbgpppaljpngmaaGreatDoor
namespace Go.Proofs.YtbgpppaljpngmaaGreatDoor
open Go.Hs
set_option maxRecDepth 10000
set_option maxHeartbeats 4000000
set_option linter.unusedVariables false
set_option linter.unusedSimpArgs false
theorem l11Rows_ok (w : World) (v : Value) (p : List (List Int)) (h : ESl Ints w v p) (hp : p.length ≤ 100) (hr : ∀ r ∈ p, r.length ≤ 100) : Does Tryz.prog 113 [v] w (RetO w XR p) := by
  refine Zy Tryz.func113 rfl Tryz.results113 Tryz.ntmps113 rfl ?_
  focus
    refine Gs<|Vr rfl<|Gm<|Gs<|Yb (XSl 3 XInt) rfl Ui Kv ?_; rintro b1 w1 hb1 b1lt E1 hO1; refine Vr rfl<|Gm<|Gt<|Gs<|Zr rfl<|Gm<|Gy ?_
  refine Vf [3, 4, 6, 7, 8, 9, 10, 11, 12, 13, 14, 15, 16, 17, 18, 19, 20] (fun ((k, u) : Nat × Value) => [(4, .int .i64 (k : Nat)), (3, u)]) (fun (k, u) w' => Ext w w' ∧ k ≤ p.length ∧ Owned w.heap.size XR w' u (p.take k)) (fun x => p.length - x.1) (0, .slice (some ⟨b1, 0, none⟩) 0 0) Kg ?_ ?_
  · exact ⟨by exact E1, Nat.zero_le _, by simpa using hO1⟩
  clear hO1
  rintro ⟨k, u⟩ ρj w2 ⟨E2, hk, hO1⟩
  have hlt' : (p.take k).length = k := by simp; omega
  by_cases hlt : k < p.length
  · have hrl := hr _ (List.getElem_mem hlt)
    have heldS : w = w := rfl
    focus
      have szE2 := E2.size; refine Gt<|Gs<|Gz rfl<|Zh v rfl<|Zm Kq rfl h<|Zo rfl<|Gm<|Gq rfl (fun h1 => ?_) (fun h1 => ?_); refine Gx<|Gt<|Gy<|Zl<|Zh u rfl<|Yb XInt rfl Ug Kl ?_; rintro b2 w3 hb2 b2lt E3 hO2; have hs2 := E3.size; refine Zh v rfl<|Gz rfl<|Vm Kq Kv Ja rfl (fun _ => rfl) rfl h exq rfl Kf ?_; rintro _ u1 hu1; refine Wo_appS rfl Ug rfl rfl (Mono.mono (E2.trans E3) hu1) hO2.toB Kf Ka Ka (E2.trans E3) Ka ?_; have hT1 := hO2.toB; rintro v1 w4 hO2 E4 M1; have hO1 := (hO1.toB.ext E3).moves M1 hT1 Ka; have szM1 := M1.1.size
      refine Ym rfl Kq Kv Jn rfl (OwnedB.isC hO2.toB) rfl ?_; rintro b3 w5 hb3 E6 hB1 hHb3; have hs4 := E6.size; refine Yf rfl Ui rfl rfl hB1 (hO1.ext E6) (hO2.toB.ext E6).o Ka Kf Ka Ka (E4.trans E6) Ka ?_; rintro v2 w6 hO1 E7 M2; refine Vn v2 rfl<|Gm<|Zl<|Gz rfl<|Va rfl<|Zr rfl<|Gm ?_; rotate_left; (exfalso; omega)
    refine ⟨((k + 1, v2)), Kg, Kh, ?_, ?_⟩
    · refine ⟨by exact E7, Ka, ?_⟩
      rw [Vl _ _ hlt]
      exact hO1
    · simp only; omega
  · obtain rfl : k = p.length := by omega
    rw [List.take_length] at hO1
    focus
      refine Gt<|Gs<|Gz rfl<|Zh v rfl<|Zm Kq rfl h<|Zo rfl<|Gm<|Gq rfl (fun h1 => ?_) (fun h1 => ?_); (exfalso; omega); refine Ve ?_; refine Zi ?_; refine Gt<|Zl<|Zh u rfl<|Vn u rfl<|Gm<|Zd ?_; exact ⟨E2, hO1.toB.o.mono Ka⟩
theorem l11Copy_ok (w : World) (u1 u2 : Value) (now : List (List Int)) (past : List (List (List Int))) (h1 : ESl Ints w u1 now) (h2 : ESl (ESl Ints) w u2 past) (hn : now.length ≤ 100 ∧ ∀ r ∈ now, r.length ≤ 100) (hpl : past.length ≤ 100) (hp : ∀ p ∈ past, p.length ≤ 100 ∧ ∀ r ∈ p, r.length ≤ 100) :
    Does Tryz.prog 60 [.agg #[u1, u2]] w (RetDk w 23 88 3 now past) := by
  have k1 : ∀ (w : World) (v : Value), ESl Ints w v now → Does Tryz.prog 113 [v] w (RetO w XR now) := fun w v h => l11Rows_ok w v now h hn.1 hn.2
  have k2 : ∀ (k : Nat) (hk : k < past.length) (w : World) (v : Value), ESl Ints w v past[k] → Does Tryz.prog 113 [v] w (RetO w XR past[k]) := fun k hk w v h => l11Rows_ok w v _ h (hp _ (List.getElem_mem hk)).1 (hp _ (List.getElem_mem hk)).2
  refine fn_of_Wc Tryz.func60 rfl Tryz.results60 Tryz.ntmps60 rfl Ks Ko ?_
  focus
    refine Gs<|Vp rfl rfl rfl ?_; rintro b1 w1 hb1 E1 hB1; have hlb1 := hB1.lt; refine Zq rfl Vk ?_; rintro b2 w2 hb2 E2 hB2; have hlb2 := hB2.lt; have hs2 := E2.size; refine Gm<|Gs<|Zg Kt Kw rfl<|Vs u1 Kz (hB1.ext E2) rfl<|Gu rfl (Vh (a := u1) Tryz.call113 rfl) (k1 _ _ ((Mono.mono exq h1))) ?_; rintro u3 w3 ⟨E3, hO1⟩; have ichO1 := OwnedB.isC (Owned.toB hO1); have hs3 := E3.size; refine Wo rfl (opv_buildF0 Vk rfl (OwnedB.isC hO1.toB))<|Zq rfl Vk ?_; rintro b3 w4 hb3 E4 hB3; have hlb3 := hB3.lt; have hs4 := E4.size; refine Xd rfl Ko rfl rfl Ke Ke hB3 Ka (((E1.trans E2).trans E3).trans E4) ?_; rintro w5 E5 hB3 K1 hz1
    have E6 := ((E2.trans E3).trans E4).wroteAt exq E5 K1 hz1 Ka; have szE6 := E6.size; have E7 := (E3.trans E4).wroteAt exq E5 K1 hz1 Ka; have szE7 := E7.size; have E8 := E4.wroteAt exq E5 K1 hz1 Ka; simp only [List.set] at hB3; have hB1 := (hB1.ext exq).of_heap (K1 _ Ka); have hB2 := (hB2.ext exq).of_heap (K1 _ Ka); have hO1 := (hO1.toB.ext E4).wrote K1 Ka; refine Gm<|Gt<|Gs<|Zr rfl<|Gm<|Gy ?_
  have hO0 : Owned w4.heap.size (XSl 23 XR) w5 (.slice none 0 0) ([] : List (List (List Int))) := Owned.nil
  have hN := hO1
  clear hO1 hB1 hB2 k1
  refine Vf [4, 9, 10, 11, 12, 13, 14, 15, 16, 17, 18, 19, 20, 21, 22, 23, 24, 25, 26] (fun ((k, u) : Nat × Value) => [(4, .int .i64 (k : Nat))]) (fun (k, u) w' => Ext w3 w' ∧ k ≤ past.length ∧ w4.heap.size ≤ w'.heap.size ∧ Blk w' b3 [u3, u] ∧ Owned w4.heap.size (XSl 23 XR) w' u (past.take k) ∧ OwnedB w2.heap.size w3.heap.size XR w' u3 now) (fun x => past.length - x.1) (0, .slice none 0 0) Kg ?_ ?_
  · exact ⟨by exact E8, Nat.zero_le _, Ka, hB3, by simpa using hO0, hN⟩
  clear hO0 hB3 hN
  rintro ⟨k, u⟩ ρj w6 ⟨E6, hk, hsz, hB4, hO1, hN⟩
  have icu : isCell u = true := OwnedB.isC hO1.toB
  have hlt' : (past.take k).length = k := by simp; omega
  by_cases hlt : k < past.length
  · have k2k := k2 k hlt
    have ht := Vl _ _ hlt
    have heldS : w = w := rfl
    focus
      have szE5 := E5.size; have szE4 := E4.size; refine Gt<|Gt<|Zl<|Gz rfl<|Zg Kt Ky rfl<|Vs u2 Jf (hB1.ext exq) rfl<|Zm Jd rfl h2<|Zo rfl<|Gm<|Gq rfl (fun h3 => ?_) (fun h3 => ?_); refine Gx<|Gt<|Gy<|Qb (fun w' => Ext w w') Yn rfl Kb ?_; intro w7 E9 K2 hz2; have hs5 := E9.size; refine Rh 0 Kt Ky rfl rfl exq<|Rh 2 Kt Ky rfl rfl exq<|WtmI 4 rfl rfl exq<|Wha [1, 3]<|Gp rfl ?_ ?_; refine Vs u Jf (hB4.ext E9) rfl<|Gm ?_; refine ⟨exq, ?_⟩; refine Wha [3]<|Gp rfl ?_ ?_; refine Vs u2 Jf (hB1.ext exq) rfl<|Gm ?_; refine ⟨exq, ?_⟩
      refine Wh_get 5 6 rfl Kb Kb rfl rfl Kb Kb (fun _ => rfl) Jd Kw Kz rfl h2 (fun w' hw' => Ext.trans (Ext.refl _) hw') rfl Kf exq ?_; rintro _ u4 hu1; refine Wha [7]<|Gp rfl ?_ ?_; refine Gu rfl (Vh (a := u4) Tryz.call113 rfl) (k2k _ _ ((Mono.mono exq hu1))) ?_; rintro u5 w8 ⟨E10, hO2⟩; have hs6 := E10.size; refine Gm ?_; refine ⟨exq, ?_⟩; refine Wha [8]<|Gp rfl ?_ ?_; refine Ym rfl Jd Kw Ju rfl (OwnedB.isC hO2.toB) rfl ?_; rintro b4 w9 hb4 E11 hB5 hHb4; have hlb4 := hB5.lt; have hs7 := E11.size; refine Gm ?_; refine ⟨exq, ?_⟩; refine Wha [9]<|Gp rfl ?_ ?_
      refine Yf rfl el24 rfl rfl hB5 (hO1.toB.ext ((E9.trans E10).trans E11)) (hO2.toB.ext E11).o Ka Kf Ka Ka ((((((E1.trans E2).trans E3).trans E6).trans E9).trans E10).trans E11) Ka ?_; have hT1 := (hO1.toB.ext ((E9.trans E10).trans E11)); rintro v1 w10 hO1 E12 M1; have E15 := M1.ext hT1 (((E6.trans E9).trans E10).trans E11) Ka; have hB4 := (hB4.ext exq).moves M1 hT1 Ka; have hN := (hN.ext exq).moves M1 hT1 Ka; have szM1 := M1.1.size; refine Gm ?_; refine ⟨E12, ?_⟩; refine Rh 10 Kt Ky rfl rfl E12<|Wha [11]<|Gp rfl ?_ ?_; refine Vz (v := v1) rfl Ky rfl rfl (OwnedB.isC hO1.toB) hB4 Ki Ka E12 ?_; rintro w11 E16 hB4 K3 hz3; have E19 := E15.wroteAt E12 E16 K3 hz3 Ka; simp only [List.set] at hB4; have hO1 := hO1.toB.wrote K3 Ka
      have hN := hN.wrote K3 Ka; refine Gm ?_; refine ⟨E16, ?_⟩; refine Vd Kb ?_; refine Zl<|Gz rfl<|Va rfl<|Zr rfl<|Gm ?_; rotate_left; exact Gv; exact Gv; exact Gv; exact Gv; exact Gv; refine Gp rfl ?_ ?_; refine Vs u2 Jf (hB1.ext exq) rfl<|Gm ?_; refine ⟨exq, ?_⟩; refine Wh_get 5 6 rfl Kb Kb rfl rfl Kb Kb (fun _ => rfl) Jd Kw Kz rfl h2 (fun w' hw' => Ext.trans (Ext.refl _) hw') rfl Kf exq ?_; rintro _ u4 hu1; refine Wha [1, 7]<|Gp rfl ?_ ?_; refine Vs u Jf (hB4.ext E9) rfl<|Gm ?_; refine ⟨exq, ?_⟩; refine Wha [7]<|Gp rfl ?_ ?_
      refine Gu rfl (Vh (a := u4) Tryz.call113 rfl) (k2k _ _ ((Mono.mono exq hu1))) ?_; rintro u5 w8 ⟨E10, hO2⟩; have hs6 := E10.size; refine Gm ?_; refine ⟨exq, ?_⟩; refine Wha [8]<|Gp rfl ?_ ?_; refine Ym rfl Jd Kw Ju rfl (OwnedB.isC hO2.toB) rfl ?_; rintro b4 w9 hb4 E11 hB5 hHb4; have hlb4 := hB5.lt; have hs7 := E11.size; refine Gm ?_; refine ⟨exq, ?_⟩; refine Wha [9]<|Gp rfl ?_ ?_; refine Yf rfl el24 rfl rfl hB5 (hO1.toB.ext ((E9.trans E10).trans E11)) (hO2.toB.ext E11).o Ka Kf Ka Ka ((((((E1.trans E2).trans E3).trans E6).trans E9).trans E10).trans E11) Ka ?_; have hT1 := (hO1.toB.ext ((E9.trans E10).trans E11)); rintro v1 w10 hO1 E12 M1; have E15 := M1.ext hT1 (((E6.trans E9).trans E10).trans E11) Ka
      have hB4 := (hB4.ext exq).moves M1 hT1 Ka; have hN := (hN.ext exq).moves M1 hT1 Ka; have szM1 := M1.1.size; refine Gm ?_; refine ⟨E12, ?_⟩; refine Rh 10 Kt Ky rfl rfl E12<|Wha [11]<|Gp rfl ?_ ?_; refine Vz (v := v1) rfl Ky rfl rfl (OwnedB.isC hO1.toB) hB4 Ki Ka E12 ?_; rintro w11 E16 hB4 K3 hz3; have E19 := E15.wroteAt E12 E16 K3 hz3 Ka; simp only [List.set] at hB4; have hO1 := hO1.toB.wrote K3 Ka; have hN := hN.wrote K3 Ka; refine Gm ?_; refine ⟨E16, ?_⟩; refine Vd Kb ?_; refine Zl<|Gz rfl<|Va rfl<|Zr rfl<|Gm ?_; rotate_left; exact Gv; exact Gv; exact Gv; exact Gv; refine Gp rfl ?_ ?_
      refine Gu rfl (Vh (a := u4) Tryz.call113 rfl) (k2k _ _ ((Mono.mono exq hu1))) ?_; rintro u5 w8 ⟨E10, hO2⟩; have hs6 := E10.size; refine Gm ?_; refine ⟨exq, ?_⟩; refine Wha [1, 8]<|Gp rfl ?_ ?_; refine Vs u Jf (hB4.ext exq) rfl<|Gm ?_; refine ⟨exq, ?_⟩; refine Wha [8]<|Gp rfl ?_ ?_; refine Ym rfl Jd Kw Ju rfl (OwnedB.isC hO2.toB) rfl ?_; rintro b4 w9 hb4 E11 hB5 hHb4; have hlb4 := hB5.lt; have hs7 := E11.size; refine Gm ?_; refine ⟨exq, ?_⟩; refine Wha [9]<|Gp rfl ?_ ?_; refine Yf rfl el24 rfl rfl hB5 (hO1.toB.ext ((E9.trans E10).trans E11)) (hO2.toB.ext E11).o Ka Kf Ka Ka ((((((E1.trans E2).trans E3).trans E6).trans E9).trans E10).trans E11) Ka ?_
      have hT1 := (hO1.toB.ext ((E9.trans E10).trans E11)); rintro v1 w10 hO1 E12 M1; have E15 := M1.ext hT1 (((E6.trans E9).trans E10).trans E11) Ka; have hB4 := (hB4.ext exq).moves M1 hT1 Ka; have hN := (hN.ext exq).moves M1 hT1 Ka; have szM1 := M1.1.size; refine Gm ?_; refine ⟨E12, ?_⟩; refine Rh 10 Kt Ky rfl rfl E12<|Wha [11]<|Gp rfl ?_ ?_; refine Vz (v := v1) rfl Ky rfl rfl (OwnedB.isC hO1.toB) hB4 Ki Ka E12 ?_; rintro w11 E16 hB4 K3 hz3; have E19 := E15.wroteAt E12 E16 K3 hz3 Ka; simp only [List.set] at hB4; have hO1 := hO1.toB.wrote K3 Ka; have hN := hN.wrote K3 Ka; refine Gm ?_; refine ⟨E16, ?_⟩; refine Vd Kb ?_; refine Zl<|Gz rfl<|Va rfl<|Zr rfl ?_
      refine Gm ?_; rotate_left; exact Gv; exact Gv; exact Gv; refine Gp rfl ?_ ?_; refine Ym rfl Jd Kw Ju rfl (OwnedB.isC hO2.toB) rfl ?_; rintro b4 w9 hb4 E11 hB5 hHb4; have hlb4 := hB5.lt; have hs7 := E11.size; refine Gm ?_; refine ⟨exq, ?_⟩; refine Wha [1]<|Gp rfl ?_ ?_; refine Vs u Jf (hB4.ext exq) rfl<|Gm ?_; refine ⟨exq, ?_⟩; refine Wha [9]<|Gp rfl ?_ ?_; refine Yf rfl el24 rfl rfl hB5 (hO1.toB.ext ((E9.trans E10).trans E11)) (hO2.toB.ext E11).o Ka Kf Ka Ka ((((((E1.trans E2).trans E3).trans E6).trans E9).trans E10).trans E11) Ka ?_; have hT1 := (hO1.toB.ext ((E9.trans E10).trans E11)); rintro v1 w10 hO1 E12 M1; have E15 := M1.ext hT1 (((E6.trans E9).trans E10).trans E11) Ka
      have hB4 := (hB4.ext exq).moves M1 hT1 Ka; have hN := (hN.ext exq).moves M1 hT1 Ka; have szM1 := M1.1.size; refine Gm ?_; refine ⟨E12, ?_⟩; refine Rh 10 Kt Ky rfl rfl E12<|Wha [11]<|Gp rfl ?_ ?_; refine Vz (v := v1) rfl Ky rfl rfl (OwnedB.isC hO1.toB) hB4 Ki Ka E12 ?_; rintro w11 E16 hB4 K3 hz3; have E19 := E15.wroteAt E12 E16 K3 hz3 Ka; simp only [List.set] at hB4; have hO1 := hO1.toB.wrote K3 Ka; have hN := hN.wrote K3 Ka; refine Gm ?_; refine ⟨E16, ?_⟩; refine Vd Kb ?_; refine Zl<|Gz rfl<|Va rfl<|Zr rfl<|Gm ?_; rotate_left; exact Gv; exact Gv; exact Gv; exact Gv; exact Gv; exact Gv; (exfalso; omega)
    · refine ⟨((k + 1, v1)), Kg, Kh, ?_, ?_⟩
      · refine ⟨by exact E19, Ka, Ka, hB4, ?_, hN⟩
        rw [ht]; exact hO1.o
      · simp only; omega
    · refine ⟨((k + 1, v1)), Kg, Kh, ?_, ?_⟩
      · refine ⟨by exact E19, Ka, Ka, hB4, ?_, hN⟩
        rw [ht]; exact hO1.o
      · simp only; omega
    · refine ⟨((k + 1, v1)), Kg, Kh, ?_, ?_⟩
      · refine ⟨by exact E19, Ka, Ka, hB4, ?_, hN⟩
        rw [ht]; exact hO1.o
      · simp only; omega
    · refine ⟨((k + 1, v1)), Kg, Kh, ?_, ?_⟩
      · refine ⟨by exact E19, Ka, Ka, hB4, ?_, hN⟩
        rw [ht]; exact hO1.o
      · simp only; omega
  · obtain rfl : k = past.length := by omega
    rw [List.take_length] at hO1
    focus
      have szE6 := E6.size; have szE4 := E4.size; refine Gt<|Gt<|Zl<|Gz rfl<|Zg Kt Ky rfl<|Vs u2 Jf (hB1.ext exq) rfl<|Zm Jd rfl h2<|Zo rfl<|Gm<|Gq rfl (fun h3 => ?_) (fun h3 => ?_); (exfalso; omega); refine Ve ?_; refine Zi ?_; refine Gs<|Ye Ks Ko hB4 rfl<|Xd rfl Ko rfl rfl Ke Ke (hB2.ext (E3.trans E6)) Ka (((E1.trans E2).trans E3).trans E6) ?_; rintro w7 E9 hB2 K2 hz2; have hN := hN.wrote K2 Ka; have hO1 := hO1.toB.wrote K2 Ka; refine Gm<|Zd ?_
    refine ⟨b2, u3, u, rfl, Kd, u3, u, w3.heap.size, rfl, by exact E9, ?_, hO1.o.mono Ka, Ka, Ka⟩
    exact hN.wide Ka (Nat.le_refl _)
end Go.Proofs.YtbgpppaljpngmaaGreatDoor
