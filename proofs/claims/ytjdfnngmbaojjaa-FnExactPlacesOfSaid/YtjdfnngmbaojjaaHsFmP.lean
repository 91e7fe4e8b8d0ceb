/- Where formulas hold in pictures. -/
import Derived.Test.YtjdfnngmbaojjaaHsFm
import Derived.Test.YtjdfnngmbaojjaaHsPic
namespace Go.Hs
def Fm.holds (p : List (List Int)) : Fm → Nat → Bool
  | .t, _ => true
  | .neg f, i => !(f.holds p i)
  | .S f, i => (arr p i).any (f.holds p)
  | .A f, i => !((arr p i).any fun j => !(f.holds p j))
  | .and f g, i => f.holds p i && g.holds p i
  | .or f g, i => f.holds p i || g.holds p i
theorem any_ints (l : List Nat) (g : Nat → Bool) : (ints l).any (fun x => g x.toNat) = l.any g := by
  induction l with
  | nil => rfl
  | cons a l ih => simp only [ints, List.map_cons, List.any_cons] at ih ⊢; rw [← ih]; simp
end Go.Hs
