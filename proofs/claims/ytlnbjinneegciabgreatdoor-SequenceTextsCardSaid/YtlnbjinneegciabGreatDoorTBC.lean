import Derived.Test.YtlnbjinneegciabGreatDoorTAA
namespace Go.Proofs.YtlnbjinneegciabGreatDoor
set_option linter.all false
open Go.Proofs.Tryz Go.ChangeShapes Go.WideShapes Go.RowKit
def ZL:(Rows.sequenceTextsRow.unfollowed==prog.unfollowed 3)=true:=by kernel_rfl
