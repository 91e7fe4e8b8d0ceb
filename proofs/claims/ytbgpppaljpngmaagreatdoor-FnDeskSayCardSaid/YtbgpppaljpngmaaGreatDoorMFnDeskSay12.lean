/- Lemmas for FnDeskSay. -/
import Derived.Test.YtbgpppaljpngmaaGreatDoorMFnDeskSay11
import Derived.Test.YtbgpppaljpngmaaGreatDoorCards
import Derived.Test.YtbgpppaljpngmaaGreatDoorTie
import Derived.SevenTiedAt
import Derived.Shelf.LaysM
namespace Go.Proofs.YtbgpppaljpngmaaGreatDoor.lFnDeskSay
open Go.ChangeShapes Go.WideShapes Go.ChangeAt Go.RowKit Go.Hs
open Go.ChangeMaps (open_string shut_string)
set_option maxHeartbeats 0
theorem cl:joinedFacts Tryz.pinned.checked.prog 4 Tryz.f4 Rows.fnDeskSaySpec Rows.fnDeskSayRow=true:=by
 simp only [joinedFacts,Bool.and_eq_true]
 repeat' (with_reducible apply And.intro)
 all_goals as_aux_lemma=>kernel_rfl
end Go.Proofs.YtbgpppaljpngmaaGreatDoor.lFnDeskSay
