import Derived.Test.YtlnbjinneegciaaGreatDoorOAA
namespace Go.Proofs.YtlnbjinneegciaaGreatDoor
set_option linter.all false
open Go.Proofs.Tryz Go.ChangeShapes Go.WideShapes Go.RowKit
def XZ:(Rows.sequenceOrdersRow.named==prog.varsNamed 3)=true:=by kernel_rfl
