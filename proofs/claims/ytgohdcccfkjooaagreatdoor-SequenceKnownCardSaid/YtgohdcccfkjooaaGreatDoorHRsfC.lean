/-
  DERIVED. The walks of the reference of surfaces, third part: Right.
-/
import Derived.Test.YtgohdcccfkjooaaGreatDoorHRsfB
import Derived.Deep.Light
namespace Go.Proofs.YtgohdcccfkjooaaGreatDoor
open Go.RowKit

end Go.Proofs.YtgohdcccfkjooaaGreatDoor
