/-
  DERIVED. The walks of the reference of surfaces, second part: small (printed by wip/mkRB.py).
-/
import Derived.Test.YtgohdcccfkjooaaGreatDoorGad
namespace Go.Proofs.YtgohdcccfkjooaaGreatDoor
open Go.RowKit

end Go.Proofs.YtgohdcccfkjooaaGreatDoor
