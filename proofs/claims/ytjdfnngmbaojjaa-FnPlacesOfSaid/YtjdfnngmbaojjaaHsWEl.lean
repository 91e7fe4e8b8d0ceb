/- Elements of slices: what the program tells of their types. -/
import Derived.Test.YtjdfnngmbaojjaaProg
import Derived.Test.YtjdfnngmbaojjaaHsSet
import Derived.Test.YtjdfnngmbaojjaaHsRead
namespace Go.Proofs.Ytjdfnngmbaojjaa
open Go.Hs
set_option maxRecDepth 10000

theorem el38 : El Try.prog 38 3 (.int .i64 0) := El.of Try.underlying38 (by kernel_rfl) rfl

theorem el30 : El Try.prog 30 38 (.slice none 0 0) := El.of Try.underlying30 (by kernel_rfl) rfl

theorem el81 : El Try.prog 81 9 (str []) := El.of Try.underlying81 (by kernel_rfl) rfl

/-- a slice of ints of the call's own; rows of such ones -/
abbrev OI (lo hi : Nat) (w : World) (v : Value) (xs : List Int) : Prop := OwnedB lo hi (XSl 3 XInt) w v xs
abbrev XI := XSl 3 XInt

abbrev XR := XSl 38 (XSl 3 XInt)

end Go.Proofs.Ytjdfnngmbaojjaa
