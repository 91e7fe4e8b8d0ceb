/- Elements of slices: what the program tells of their types. -/
import Derived.Test.YthhaodjjfofogaaProg
import Derived.Test.YthhaodjjfofogaaHsSet
import Derived.Test.YthhaodjjfofogaaHsRead
namespace Go.Proofs.Ythhaodjjfofogaa
open Go.Hs
set_option maxRecDepth 10000

theorem el24 : El Try.prog 24 3 (.int .i64 0) := El.of Try.underlying24 (by kernel_rfl) rfl

theorem el22 : El Try.prog 22 24 (.slice none 0 0) := El.of Try.underlying22 (by kernel_rfl) rfl

theorem el46 : El Try.prog 46 4 (.bool false) := El.of Try.underlying46 (by kernel_rfl) rfl

/-- a slice of ints of the call's own; rows of such ones -/
abbrev OI (lo hi : Nat) (w : World) (v : Value) (xs : List Int) : Prop := OwnedB lo hi (XSl 3 XInt) w v xs
abbrev XI := XSl 3 XInt

abbrev XR := XSl 24 (XSl 3 XInt)

end Go.Proofs.Ythhaodjjfofogaa
