import Derived.Test.YtlnbjinneegciabGreatDoorTAA
namespace Go.Proofs.YtlnbjinneegciabGreatDoor
set_option linter.all false
open Go.Proofs.Tryz Go.ChangeShapes Go.WideShapes Go.RowKit
def ZK:(Rows.sequenceTextsRow.inPlace==prog.inPlace 3)=true:=by kernel_rfl
