import Derived.Test.YtgohdcccfkjooaaGreatDoorSAA
namespace Go.Proofs.YtgohdcccfkjooaaGreatDoor
set_option linter.all false
open Go.Proofs.Tryz Go.ChangeShapes Go.WideShapes Go.RowKit
def VK:(Rows.sequenceSkipsRow.named==prog.varsNamed 7)=true:=by kernel_rfl
