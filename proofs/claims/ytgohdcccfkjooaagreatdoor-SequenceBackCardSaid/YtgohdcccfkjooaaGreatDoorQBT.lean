import Derived.Test.YtgohdcccfkjooaaGreatDoorQBN
import Derived.Test.YtgohdcccfkjooaaGreatDoorQBO
import Derived.Test.YtgohdcccfkjooaaGreatDoorQBP
import Derived.Test.YtgohdcccfkjooaaGreatDoorQBQ
import Derived.Test.YtgohdcccfkjooaaGreatDoorQBR
namespace Go.Proofs.YtgohdcccfkjooaaGreatDoor
set_option linter.all false
open Go.Proofs.Tryz Go.ChangeShapes Go.WideShapes Go.RowKit
def D5:joinedFacts prog 5 Tryz.f5 Rows.sequenceBackSpec Rows.sequenceBackRow=true:=by
 unfold joinedFacts;simp only[am]
 repeat' (with_reducible apply And.intro)
 all_goals first|(with_reducible exact O6)|(with_reducible exact O7)|(with_reducible exact O8)|(with_reducible exact O9)|kernel_rfl
end Go.Proofs.YtgohdcccfkjooaaGreatDoor
