/- What a call leaves that draws data of its own. -/
import Derived.Test.YthhaodjjfofogaaHsDraw
set_option linter.unusedVariables false
namespace Go.Hs
def RetDX {α : Type} (w : World) (X : World → List Nat → Value → α → Prop) (p : α → Prop) : Value → World → Prop := fun u w' => ∃ x, Ext w w' ∧ Owned w.heap.size X w' u x ∧ p x
end Go.Hs
