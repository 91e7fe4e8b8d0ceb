/- Deeds, and slices of deeds, read as arguments. -/
import Derived.Test.YtgphoihilheoeaaDoorHsRead
import Derived.Test.YtgphoihilheoeaaDoorHsStr3
import Derived.ChangeSame
import Derived.Deep.Strs
set_option linter.unusedVariables false
namespace Go.Hs
open Go.ChangeShapes Go.WideShapes Go.ChangeAt Go.RowKit Go.Deep
variable {P : Program} {t ts ti tx : TypeId} {f0 f1 f2 : Field} {H : Type} {enc : TypeId × Value → H} {w : World} {r : Reach} {b0 base : Nat} {sp : Nat → Bool} {held : Bool} {v : Value} {d : DataW H} {ps : List MemPlace}
/-- the type of a deed -/
structure DeedT (P : Program) (t : TypeId) (f0 f1 f2 : Field) : Prop where
  und : P.underlying t = some (.struct #[f0, f1, f2])
  c0 : P.cellsOf f0.type = 1
  c1 : P.cellsOf f1.type = 1
  c2 : P.cellsOf f2.type = 1
  o0 : f0.offset = 0
  o1 : f1.offset = 1
  o2 : f2.offset = 2
  ct : P.cellsOf t = 3
  u0 : P.underlying f0.type = some (.int .i64)
  u1 : P.underlying f1.type = some .string
  u2 : P.underlying f2.type = some (.int .i64)
theorem trod_deed {fuel : Nat} {cs : List Value} {x : DataW H × List MemPlace} (T : DeedT P t f0 f1 f2) (h : DataW.trod enc P w base sp held fuel t cs = some x) :
    ∃ a : Deed, cs = [.int .i64 a.kind, str a.text, .int .i64 a.node] ∧ a.text.length ≤ 9223372036854775807 := by
  obtain ⟨y0, y1, y2, n, _, hl, h0, h1, h2⟩ := trod_struct3 T.und h
  rw [T.ct] at hl
  match cs, hl with
  | [a, b, c], _ =>
    rw [T.c0, T.o0] at h0
    rw [T.c1, T.o1] at h1
    rw [T.c2, T.o2] at h2
    obtain ⟨v0, x0, e0, k0⟩ := reads_int T.u0 _ _ _ _ _ _ _ _ _ h0
    obtain ⟨v1, x1, e1, k1⟩ := reads_str T.u1 _ _ _ _ _ _ _ _ _ h1
    obtain ⟨v2, x2, e2, k2⟩ := reads_int T.u2 _ _ _ _ _ _ _ _ _ h2
    simp at e0 e1 e2
    subst e0 e1 e2
    obtain ⟨rfl, hlen⟩ := k1
    rw [k0, k2]
    exact ⟨⟨x0, x1, x2⟩, rfl, hlen⟩
theorem read_deed (T : DeedT P t f0 f1 f2) (hval : Value.okWide P w r b0 t v) (hd : DataW.Trod enc P w base sp held t v d ps) :
    ∃ (k n : Int) (l : List UInt8), v = .agg #[.int .i64 k, str l, .int .i64 n] ∧ l.length ≤ 9223372036854775807 := by
  unfold Value.okWide at hval
  rw [T.und] at hval
  obtain ⟨cs, rfl, hsz, _⟩ := hval
  obtain ⟨fuel, hf⟩ := hd
  obtain ⟨a, e, hl⟩ := trod_deed T hf
  have e' : cs.toList = _ := e
  obtain ⟨l⟩ := cs
  simp only at e'
  subst e'
  exact ⟨a.kind, a.node, a.text, rfl, hl⟩
theorem cells3 {a : Addr} {u1 u2 u3 : Value} (h : w.cells? base a 3 = some [u1, u2, u3]) : w.cell? (a.add 0) = some u1 ∧ w.cell? (a.add 1) = some u2 ∧ w.cell? (a.add 2) = some u3 := by
  simp only [World.cells?] at h
  split at h
  · simp only [List.range_succ, List.range_zero, List.nil_append, List.mapM_cons, List.mapM_nil, Option.pure_def, Option.bind_eq_bind, List.cons_append] at h
    cases h0 : w.cell? (a.add 0) with
    | none => rw [h0] at h; cases h
    | some x0 =>
      cases h1 : w.cell? (a.add 1) with
      | none => rw [h0, h1] at h; cases h
      | some x1 =>
        cases h2 : w.cell? (a.add 2) with
        | none => rw [h0, h1, h2] at h; cases h
        | some x2 =>
          rw [h0, h1, h2] at h
          simp at h
          obtain ⟨rfl, rfl, rfl⟩ := h
          exact ⟨rfl, rfl, rfl⟩
  · cases h
theorem read_deeds (T : DeedT P t f0 f1 f2) (hs : P.underlying ts = some (.slice t)) (hval : Value.okWide P w r b0 ts v) (hd : DataW.Trod enc P w base sp held ts v d ps) : ∃ l, ESD w v l := by
  obtain ⟨a', len', cap', rfl⟩ := okWide_slice hs hval
  obtain ⟨fuel, hf⟩ := hd
  rcases open_slice hs hf with ⟨h1, _⟩ | ⟨a, len, cap, m, n, D, Pl, h1, hb, hl, hm, hmm, _, hx⟩
  · simp [Value.cells] at h1
    obtain ⟨rfl, rfl, rfl⟩ := h1
    exact ⟨[], none, 0, rfl, by simp, .inl rfl⟩
  · simp [Value.cells] at h1
    obtain ⟨rfl, rfl, rfl⟩ := h1
    have hlm : len' ≤ m := by rw [hmm]; split <;> omega
    have each : ∀ i, i < len' → ∃ x : Deed, w.cells? base (a.add (i * 3)) 3 = some [.int .i64 x.kind, str x.text, .int .i64 x.node] ∧ x.text.length ≤ 9223372036854775807 := by
      intro i hi
      obtain ⟨cs', h1, h2⟩ := hx i (by omega)
      rw [T.ct] at h1
      obtain ⟨x, rfl, hxl⟩ := trod_deed T h2
      exact ⟨x, h1, hxl⟩
    classical
    let f : Nat → Deed := fun i => if hi : i < len' then (each i hi).choose else ⟨0, [], 0⟩
    have hf : ∀ i, i < len' → w.cells? base (a.add (i * 3)) 3 = some [.int .i64 (f i).kind, str (f i).text, .int .i64 (f i).node] ∧ (f i).text.length ≤ 9223372036854775807 := by
      intro i hi
      have : f i = (each i hi).choose := dif_pos hi
      rw [this]
      exact (each i hi).choose_spec
    refine ⟨(List.range len').map f, some a, cap', by simp, by simp; unfold maxLen at hm; omega, ?_⟩
    by_cases h0 : len' = 0
    · left; subst h0; rfl
    · right
      have hs : a.spot = none := by
        have := spot_none (cells3 (hf 0 (by omega)).1).1
        simpa [Addr.add] using this
      obtain ⟨b, o, sp'⟩ := a
      simp only at hs
      subst hs
      refine ⟨b, o, rfl, fun i hi => ?_⟩
      simp only [List.length_map, List.length_range] at hi
      have hadd : ∀ x y : Nat, (⟨b, x, none⟩ : Addr).add y = ⟨b, x + y, none⟩ := fun x y => add_mk b x y
      have hc := cells3 (hf i hi).1
      rw [hadd, hadd, hadd, hadd] at hc
      simp only [List.getElem_map, List.getElem_range]
      exact ⟨hc.1, hc.2.1, hc.2.2, (hf i hi).2⟩
end Go.Hs
