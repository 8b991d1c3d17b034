import Derived.Test.YtlnbjinneegciabGreatDoorTBE
import Derived.Test.YtlnbjinneegciabGreatDoorTBC
import Derived.Test.YtlnbjinneegciabGreatDoorTBF
import Derived.Test.YtlnbjinneegciabGreatDoorTBG
import Derived.Test.YtlnbjinneegciabGreatDoorTBD
namespace Go.Proofs.YtlnbjinneegciabGreatDoor
set_option linter.all false
open Go.Proofs.Tryz Go.ChangeShapes Go.WideShapes Go.RowKit
def Y8:joinedFacts prog 3 Tryz.f3 Rows.sequenceTextsSpec Rows.sequenceTextsRow=true:=by
 unfold joinedFacts;simp only[am]
 repeat' (with_reducible apply And.intro)
 all_goals first|(with_reducible exact ZK)|(with_reducible exact ZL)|(with_reducible exact ZM)|(with_reducible exact ZN)|kernel_rfl
