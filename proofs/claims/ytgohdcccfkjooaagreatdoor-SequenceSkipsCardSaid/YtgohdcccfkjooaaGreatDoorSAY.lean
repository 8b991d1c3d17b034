import Derived.Test.YtgohdcccfkjooaaGreatDoorSAA
namespace Go.Proofs.YtgohdcccfkjooaaGreatDoor
set_option linter.all false
open Go.Proofs.Tryz Go.ChangeShapes Go.WideShapes Go.RowKit
def VI:(Rows.sequenceSkipsRow.unfollowed==prog.unfollowed 7)=true:=by kernel_rfl
