/- Elements of slices: what the program tells of their types. -/
import Derived.Test.YtlalfmialbolhaaProg
import Derived.Test.YtlalfmialbolhaaHsSet
import Derived.Test.YtlalfmialbolhaaHsRead
namespace Go.Proofs.Ytlalfmialbolhaa
open Go.Hs
set_option maxRecDepth 10000

theorem el23 : El Try.prog 23 3 (.int .i64 0) := El.of Try.underlying23 (by kernel_rfl) rfl

theorem el50 : El Try.prog 50 23 (.slice none 0 0) := El.of Try.underlying50 (by kernel_rfl) rfl

/-- a slice of ints of the call's own; rows of such ones -/
abbrev OI (lo hi : Nat) (w : World) (v : Value) (xs : List Int) : Prop := OwnedB lo hi (XSl 3 XInt) w v xs
abbrev XI := XSl 3 XInt

abbrev XR := XSl 23 (XSl 3 XInt)

end Go.Proofs.Ytlalfmialbolhaa
