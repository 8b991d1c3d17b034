import Derived.Test.YtgohdcccfkjooaaGreatDoorSAW
import Derived.Test.YtgohdcccfkjooaaGreatDoorSAY
import Derived.Test.YtgohdcccfkjooaaGreatDoorSAX
import Derived.Test.YtgohdcccfkjooaaGreatDoorSBB
namespace Go.Proofs.YtgohdcccfkjooaaGreatDoor
set_option linter.all false
open Go.Proofs.Tryz Go.ChangeShapes Go.WideShapes Go.RowKit
def U0:joinedFacts prog 7 Tryz.f7 Rows.sequenceSkipsSpec Rows.sequenceSkipsRow=true:=by
 unfold joinedFacts;simp only[am]
 repeat' (with_reducible apply And.intro)
 all_goals first|(with_reducible exact VH)|(with_reducible exact VI)|(with_reducible exact VJ)|(with_reducible exact VK)|kernel_rfl
