/- What calls leave that hand back two structs of two lists, or draw them. -/
import Derived.Test.YtlalfmialbolhaaHsSub
import Derived.Test.YtlalfmialbolhaaHsDraw
set_option linter.unusedVariables false
namespace Go.Hs
theorem OwnedB.nil {α : Type} {X : World → List Nat → Value → α → Prop} {w : World} {e : TypeId} {lo hi : Nat} : OwnedB lo hi (XSl e X) w (.slice none 0 0) [] := ⟨[], List.nodup_nil, (fun _ h => by cases h), [], [], World.ownsRow_nil w 0 e 1, rfl, trivial⟩
/-- two structs of two lists of the call's own, the second's data behind the first's -/
def RetS22 (w : World) (e : TypeId) (xs ys xs' ys' : List Int) : Value → World → Prop := fun v w' => ∃ u1 u2 q1 q2 m, v = .tuple #[.agg #[u1, u2], .agg #[q1, q2]] ∧ Ext w w' ∧ OwnedB w.heap.size m (XSl e XInt) w' u1 xs ∧ OwnedB w.heap.size m (XSl e XInt) w' u2 ys ∧ (u1.ownBlock ≠ u2.ownBlock ∨ u1.ownBlock = none) ∧ Owned m (XSl e XInt) w' q1 xs' ∧ Owned m (XSl e XInt) w' q2 ys' ∧ (q1.ownBlock ≠ q2.ownBlock ∨ q1.ownBlock = none) ∧ w.heap.size ≤ m ∧ m ≤ w'.heap.size
/-- a struct drawn beside a reader -/
def RetDS (w0 w : World) (br m : Nat) (e : TypeId) (p : List Int → List Int → Prop) : Value → World → Prop := fun v w' => ∃ u1 u2 xs ys, v = .agg #[u1, u2] ∧ w.grownBy w' (some br) ∧ Rdr w0 w' br m ∧ Owned w.heap.size (XSl e XInt) w' u1 xs ∧ Owned w.heap.size (XSl e XInt) w' u2 ys ∧ p xs ys
/-- a struct drawn -/
def RetE1 (w : World) (e : TypeId) (p : List Int → List Int → Prop) : Value → World → Prop := fun v w' => ∃ u1 u2 xs ys, v = .agg #[u1, u2] ∧ Ext w w' ∧ Owned w.heap.size (XSl e XInt) w' u1 xs ∧ Owned w.heap.size (XSl e XInt) w' u2 ys ∧ p xs ys
/-- a struct and a number drawn -/
def RetE1z (w : World) (e : TypeId) (p : List Int → List Int → Int → Prop) : Value → World → Prop := fun v w' => ∃ u1 u2 z xs ys, v = .tuple #[.agg #[u1, u2], .int .i64 z] ∧ Ext w w' ∧ Owned w.heap.size (XSl e XInt) w' u1 xs ∧ Owned w.heap.size (XSl e XInt) w' u2 ys ∧ p xs ys z
/-- a number and a struct drawn -/
def RetEz1 (w : World) (e : TypeId) (p : Int → List Int → List Int → Prop) : Value → World → Prop := fun v w' => ∃ z u1 u2 xs ys, v = .tuple #[.int .i64 z, .agg #[u1, u2]] ∧ Ext w w' ∧ Owned w.heap.size (XSl e XInt) w' u1 xs ∧ Owned w.heap.size (XSl e XInt) w' u2 ys ∧ p z xs ys
/-- two structs drawn -/
def RetE2 (w : World) (e : TypeId) (p : List Int → List Int → Prop) : Value → World → Prop := fun v w' => ∃ u1 u2 q1 q2 xs ys xs' ys', v = .tuple #[.agg #[u1, u2], .agg #[q1, q2]] ∧ Ext w w' ∧ Owned w.heap.size (XSl e XInt) w' u1 xs ∧ Owned w.heap.size (XSl e XInt) w' u2 ys ∧ Owned w.heap.size (XSl e XInt) w' q1 xs' ∧ Owned w.heap.size (XSl e XInt) w' q2 ys' ∧ p xs ys ∧ p xs' ys'
end Go.Hs
