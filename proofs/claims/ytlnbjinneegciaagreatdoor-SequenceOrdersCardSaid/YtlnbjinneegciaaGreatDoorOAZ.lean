import Derived.Test.YtlnbjinneegciaaGreatDoorOAA
namespace Go.Proofs.YtlnbjinneegciaaGreatDoor
set_option linter.all false
open Go.Proofs.Tryz Go.ChangeShapes Go.WideShapes Go.RowKit
def XW:(Rows.sequenceOrdersRow.inPlace==prog.inPlace 3)=true:=by kernel_rfl
