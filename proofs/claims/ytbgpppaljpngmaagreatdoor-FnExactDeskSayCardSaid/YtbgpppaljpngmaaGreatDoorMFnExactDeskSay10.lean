/- Lemmas for FnExactDeskSay. -/
import Derived.Test.YtbgpppaljpngmaaGreatDoorMFnExactDeskSay9
import Derived.Test.YtbgpppaljpngmaaGreatDoorCards
import Derived.Test.YtbgpppaljpngmaaGreatDoorTie
import Derived.SevenTiedAt
import Derived.Shelf.LaysM
namespace Go.Proofs.YtbgpppaljpngmaaGreatDoor.lFnExactDeskSay
open Go.ChangeShapes Go.WideShapes Go.ChangeAt Go.RowKit Go.Hs
open Go.ChangeMaps (open_string shut_string)
set_option maxHeartbeats 0
theorem cl:joinedFacts Tryz.pinned.checked.prog 5 Tryz.f5 Rows.fnExactDeskSaySpec Rows.fnExactDeskSayRow=true:=by
 simp only [joinedFacts,Bool.and_eq_true]
 repeat' (with_reducible apply And.intro)
 all_goals as_aux_lemma=>kernel_rfl
end Go.Proofs.YtbgpppaljpngmaaGreatDoor.lFnExactDeskSay
