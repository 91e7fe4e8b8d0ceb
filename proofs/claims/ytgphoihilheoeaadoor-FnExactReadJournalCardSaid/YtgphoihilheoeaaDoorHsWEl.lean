/- Elements of slices: what the program tells of their types. -/
import Derived.Test.YtgphoihilheoeaaDoorProg
import Derived.Test.YtgphoihilheoeaaDoorHsSet
import Derived.Test.YtgphoihilheoeaaDoorHsRead
namespace Go.Proofs.YtgphoihilheoeaaDoor
open Go.Hs
set_option maxRecDepth 10000

theorem el80 : El Tryd.prog 80 3 (.int .i64 0) := El.of Tryd.underlying80 (by kernel_rfl) rfl

theorem el49 : El Tryd.prog 49 80 (.slice none 0 0) := El.of Tryd.underlying49 (by kernel_rfl) rfl

theorem el51 : El Tryd.prog 51 49 (.slice none 0 0) := El.of Tryd.underlying51 (by kernel_rfl) rfl

theorem el65 : El Tryd.prog 65 9 (str []) := El.of Tryd.underlying65 (by kernel_rfl) rfl

/-- a slice of ints of the call's own; rows of such ones -/
abbrev OI (lo hi : Nat) (w : World) (v : Value) (xs : List Int) : Prop := OwnedB lo hi (XSl 3 XInt) w v xs
abbrev XI := XSl 3 XInt

abbrev XR := XSl 80 (XSl 3 XInt)

end Go.Proofs.YtgphoihilheoeaaDoor
