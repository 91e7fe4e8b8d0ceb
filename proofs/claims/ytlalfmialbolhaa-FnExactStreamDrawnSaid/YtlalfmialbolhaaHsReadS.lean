/- Structs of two slices read as arguments. -/
import Derived.Test.YtlalfmialbolhaaHsRead
import Derived.ChangeSame
set_option linter.unusedVariables false
namespace Go.Hs
open Go.ChangeShapes Go.WideShapes Go.ChangeAt Go.RowKit Go.Deep
theorem read_pair {P : Program} {α : Type} {E : World → Value → α → Prop} {t : TypeId} {f0 f1 : Field} {H : Type} {enc : TypeId × Value → H} {w : World} {r : Reach} {b0 base : Nat} {sp : Nat → Bool} {held : Bool} {v : Value} {d : DataW H} {ps : List MemPlace}
    (ht : P.underlying t = some (.struct #[f0, f1])) (hc0 : P.cellsOf f0.type = 1) (hc1 : P.cellsOf f1.type = 1) (ho0 : f0.offset = 0) (ho1 : f1.offset = 1) (hct : P.cellsOf t = 2) (hE : Reads P f0.type E) (hE' : Reads P f1.type E)
    (hval : Value.okWide P w r b0 t v) (hd : DataW.Trod enc P w base sp held t v d ps) : ∃ u1 u2 xs ys, v = .agg #[u1, u2] ∧ E w u1 xs ∧ E w u2 ys := by
  unfold Value.okWide at hval
  rw [ht] at hval
  obtain ⟨cs, rfl, hsz, _⟩ := hval
  rw [hct] at hsz
  obtain ⟨u1, u2, rfl⟩ : ∃ u1 u2, cs = #[u1, u2] := by
    obtain ⟨l⟩ := cs
    match l, hsz with
    | [a, b], _ => exact ⟨a, b, rfl⟩
  obtain ⟨fuel, hf⟩ := hd
  obtain ⟨y0, y1, n, _, _, h0, h1⟩ := trod_struct2 ht hf
  rw [hc0, ho0] at h0
  rw [hc1, ho1] at h1
  obtain ⟨v0, x0, e0, k0⟩ := hE _ _ _ _ _ _ _ _ _ h0
  obtain ⟨v1, x1, e1, k1⟩ := hE' _ _ _ _ _ _ _ _ _ h1
  have e0' : [u1] = [v0] := e0
  have e1' : [u2] = [v1] := e1
  injection e0' with e0'
  injection e1' with e1'
  subst e0' e1'
  exact ⟨u1, u2, x0, x1, rfl, k0, k1⟩
end Go.Hs
