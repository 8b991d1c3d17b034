import Derived.Test.YtlnbjinneegciabGreatDoorTAA
namespace Go.Proofs.YtlnbjinneegciabGreatDoor
set_option linter.all false
open Go.Proofs.Tryz Go.ChangeShapes Go.WideShapes Go.RowKit
def ZO:prog.funcNamed Rows.sequenceTextsRow.func=some 3:=by kernel_rfl
def Zt:(Tryz.f3).isInstance prog Rows.sequenceTextsRow.origin Rows.sequenceTextsRow.targs:=bZ (by kernel_rfl)
def Zv:(Tryz.f3).isWrapper prog Rows.sequenceTextsRow.wrapper Rows.sequenceTextsRow.mainSum:=by
 unfold Func.isWrapper;first|(rw[aq (by decide+kernel)];kernel_rfl)|(rw[aj (by decide+kernel)];exact⟨rfl,rfl⟩)
