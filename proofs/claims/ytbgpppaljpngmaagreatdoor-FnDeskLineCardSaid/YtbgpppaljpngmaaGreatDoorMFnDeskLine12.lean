/- Lemmas for FnDeskLine. -/
import Derived.Test.YtbgpppaljpngmaaGreatDoorMFnDeskLine11
import Derived.Test.YtbgpppaljpngmaaGreatDoorCards
import Derived.Test.YtbgpppaljpngmaaGreatDoorTie
import Derived.SevenTiedAt
import Derived.Shelf.LaysM
namespace Go.Proofs.YtbgpppaljpngmaaGreatDoor.lFnDeskLine
open Go.ChangeShapes Go.WideShapes Go.ChangeAt Go.RowKit Go.Hs
open Go.ChangeMaps (open_string shut_string)
set_option maxHeartbeats 0
theorem cl:joinedFacts Tryz.pinned.checked.prog 3 Tryz.f3 Rows.fnDeskLineSpec Rows.fnDeskLineRow=true:=by
 simp only [joinedFacts,Bool.and_eq_true]
 repeat' (with_reducible apply And.intro)
 all_goals as_aux_lemma=>kernel_rfl
end Go.Proofs.YtbgpppaljpngmaaGreatDoor.lFnDeskLine
