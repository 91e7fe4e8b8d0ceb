/- any over numbers. -/
import Derived.Test.YthhaodjjfofogaaHsPic
namespace Go.Hs
theorem any_ints (l : List Nat) (g : Nat → Bool) : (ints l).any (fun x => g x.toNat) = l.any g := by
  induction l with
  | nil => rfl
  | cons a l ih => simp only [ints, List.map_cons, List.any_cons] at ih ⊢; rw [← ih]; simp
end Go.Hs
