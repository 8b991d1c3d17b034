import Derived.Test.YtgohdcccfkjooaaGreatDoorQAA
namespace Go.Proofs.YtgohdcccfkjooaaGreatDoor
set_option linter.all false
open Go.Proofs.Tryz Go.ChangeShapes Go.WideShapes Go.RowKit
def O9:(Rows.sequenceBackRow.named==prog.varsNamed 5)=true:=by kernel_rfl
end Go.Proofs.YtgohdcccfkjooaaGreatDoor
