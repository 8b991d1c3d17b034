import Derived.Test.YtgohdcccfkjooaaGreatDoorQAA
namespace Go.Proofs.YtgohdcccfkjooaaGreatDoor
set_option linter.all false
open Go.Proofs.Tryz Go.ChangeShapes Go.WideShapes Go.RowKit
def Pa:prog.funcNamed Rows.sequenceBackRow.func=some 5:=by kernel_rfl
def Jg:(Tryz.f5).isInstance prog Rows.sequenceBackRow.origin Rows.sequenceBackRow.targs:=bZ (by kernel_rfl)
def Jh:(Tryz.f5).isWrapper prog Rows.sequenceBackRow.wrapper Rows.sequenceBackRow.mainSum:=by
 unfold Func.isWrapper;first|(rw[aq (by decide+kernel)];kernel_rfl)|(rw[aj (by decide+kernel)];exact⟨rfl,rfl⟩)
end Go.Proofs.YtgohdcccfkjooaaGreatDoor
