/-
  DERIVED. The closed facts of SequenceKnown's row.
-/
import Derived.Test.YtgohdcccfkjooaaGreatDoorGaa
import Derived.JoinedOf
namespace Go.Proofs.YtgohdcccfkjooaaGreatDoor
open Go.ChangeShapes Go.WideShapes Go.RowKit

theorem sknown_fn : Tryz.prog.funcNamed Rows.sequenceKnownRow.func = some 6 := by kernel_rfl
theorem sknown_closed : joinedFacts Tryz.prog 6 Tryz.f6 Rows.sequenceKnownSpec Rows.sequenceKnownRow = true := by kernel_rfl
theorem sknown_inst : (Tryz.f6).isInstance Tryz.prog Rows.sequenceKnownRow.origin Rows.sequenceKnownRow.targs := of_decide_eq_true (by kernel_rfl)
theorem sknown_wrap : (Tryz.f6).isWrapper Tryz.prog Rows.sequenceKnownRow.wrapper Rows.sequenceKnownRow.mainSum := by
  unfold Func.isWrapper; first | (rw [if_pos (by decide +kernel)]; kernel_rfl) | (rw [if_neg (by decide +kernel)]; exact ⟨rfl, rfl⟩)
end Go.Proofs.YtgohdcccfkjooaaGreatDoor
