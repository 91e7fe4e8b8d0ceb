/- Where formulas hold in pictures. -/
import Derived.Test.YtjdfnngmbaojjaaHsFm
import Derived.Test.YtjdfnngmbaojjaaHsAny
namespace Go.Hs
def Fm.holds (p : List (List Int)) : Fm → Nat → Bool
  | .t, _ => true
  | .neg f, i => !(f.holds p i)
  | .S f, i => (arr p i).any (f.holds p)
  | .A f, i => !((arr p i).any fun j => !(f.holds p j))
  | .and f g, i => f.holds p i && g.holds p i
  | .or f g, i => f.holds p i || g.holds p i
end Go.Hs
