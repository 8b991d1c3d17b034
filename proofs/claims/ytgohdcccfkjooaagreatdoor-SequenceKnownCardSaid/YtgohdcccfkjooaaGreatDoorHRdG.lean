/-
  DERIVED. The walk of the reference's Parse of chapter 5.
-/
import Derived.Test.YtgohdcccfkjooaaGreatDoorGad
import Derived.Lib.SlBytesConst
namespace Go.Proofs.YtgohdcccfkjooaaGreatDoor
open Go.RowKit

def RetPar (w : World) (l : List UInt8) (d : Nat) (en : Ending) (w' : World) : Prop := en = .returned (.tuple #[.int .i64 (parN l d), .int .i64 (parE l d)]) ∧ Below w.heap.size w w'

end Go.Proofs.YtgohdcccfkjooaaGreatDoor
