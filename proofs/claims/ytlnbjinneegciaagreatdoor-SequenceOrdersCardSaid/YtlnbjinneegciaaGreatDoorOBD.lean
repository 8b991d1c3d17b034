import Derived.Test.YtlnbjinneegciaaGreatDoorOAA
namespace Go.Proofs.YtlnbjinneegciaaGreatDoor
set_option linter.all false
open Go.Proofs.Tryz Go.ChangeShapes Go.WideShapes Go.RowKit
def X6:prog.funcNamed Rows.sequenceOrdersRow.func=some 3:=by kernel_rfl
def Xu:(Tryz.f3).isInstance prog Rows.sequenceOrdersRow.origin Rows.sequenceOrdersRow.targs:=bZ (by kernel_rfl)
def Xw:(Tryz.f3).isWrapper prog Rows.sequenceOrdersRow.wrapper Rows.sequenceOrdersRow.mainSum:=by
 unfold Func.isWrapper;first|(rw[aq (by decide+kernel)];kernel_rfl)|(rw[aj (by decide+kernel)];exact⟨rfl,rfl⟩)
