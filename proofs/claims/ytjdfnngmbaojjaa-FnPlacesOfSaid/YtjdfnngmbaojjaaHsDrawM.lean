/- What a call leaves that draws data of its own and two numbers. -/
import Derived.Test.YtjdfnngmbaojjaaHsDraw
set_option linter.unusedVariables false
namespace Go.Hs
def RetTM {α : Type} (w : World) (X : World → List Nat → Value → α → Prop) (p : α → Int → Int → Prop) : Value → World → Prop := fun v w' => ∃ u z z2 x, v = .tuple #[u, .int .i64 z, .int .i64 z2] ∧ Ext w w' ∧ Owned w.heap.size X w' u x ∧ p x z z2
end Go.Hs
