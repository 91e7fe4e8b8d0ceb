/- Lemmas for FnExactDeskLine. -/
import Derived.Test.YtbgpppaljpngmaaGreatDoorMFnExactDeskLine9
import Derived.Test.YtbgpppaljpngmaaGreatDoorCards
import Derived.Test.YtbgpppaljpngmaaGreatDoorTie
import Derived.SevenTiedAt
import Derived.Shelf.LaysM
namespace Go.Proofs.YtbgpppaljpngmaaGreatDoor.lFnExactDeskLine
open Go.ChangeShapes Go.WideShapes Go.ChangeAt Go.RowKit Go.Hs
open Go.ChangeMaps (open_string shut_string)
set_option maxHeartbeats 0
theorem cl : joinedFacts Tryz.pinned.checked.prog 11 Tryz.f11 Rows.fnExactDeskLineSpec Rows.fnExactDeskLineRow = true := by
  simp only [joinedFacts, Bool.and_eq_true]
  repeat' (with_reducible apply And.intro)
  all_goals as_aux_lemma => kernel_rfl
end Go.Proofs.YtbgpppaljpngmaaGreatDoor.lFnExactDeskLine
