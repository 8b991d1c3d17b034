import Derived.Test.YtlnbjinneegciaaGreatDoorOAZ
import Derived.Test.YtlnbjinneegciaaGreatDoorOAW
import Derived.Test.YtlnbjinneegciaaGreatDoorOBC
import Derived.Test.YtlnbjinneegciaaGreatDoorOBB
import Derived.Test.YtlnbjinneegciaaGreatDoorOBD
namespace Go.Proofs.YtlnbjinneegciaaGreatDoor
set_option linter.all false
open Go.Proofs.Tryz Go.ChangeShapes Go.WideShapes Go.RowKit
def Xg:joinedFacts prog 3 Tryz.f3 Rows.sequenceOrdersSpec Rows.sequenceOrdersRow=true:=by
 unfold joinedFacts;simp only[am]
 repeat' (with_reducible apply And.intro)
 all_goals first|(with_reducible exact XW)|(with_reducible exact XX)|(with_reducible exact XY)|(with_reducible exact XZ)|kernel_rfl
