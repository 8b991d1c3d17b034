/-
  DERIVED. GIVEN WITH THE SEED: THE CARDS: each row of YtlnbjinneegciaaGreatDoorRows.lean that lists a variable, with what it lists TIED to the program's text (the seventh form; the later family's looks); each row that meets fmt, with fmt's text TOLD by the authors' own Lean function (tested against real Go, not proved from fmt's source: count such statements apart). THE CARD IS WHAT COUNTS. Prove the row's statement (the work); the ties are given (YtlnbjinneegciaaGreatDoorTie.lean); close each card by the builder's one call (the guide's Derived/Test/ToyasCard.lean, 'card_holds'). Laid BY PROGRAM, IN A SANDBOX (cutbox-door.mjs). By AI agents, Wed Nov 11 2026. No macro, syntax, notation, axiom, sorry.
-/
import Derived.Test.YtlnbjinneegciaaGreatDoorRows
import GoSem.ClaimSeven
namespace Go.Proofs.YtlnbjinneegciaaGreatDoor
namespace Rows

/-- THE TIED CARD OF 'monoclelaw43.SequenceOrders'. -/
def sequenceOrdersCard : Claim7 := { stood := { row := sequenceOrdersRow, standIns := [], harness := (true, "2a346f5b22945e1dfe05825dd688e1f2e4ad3b586ae923762861bf5f1b765119"), looks := true }, kinds := [], alts := [], laidByText := true, laidKinds := [.data, .data, .data, .data, .sentinel, .sentinel, .mappedDeep, .funcsDeep, .funcs, .widerDeep, .widerDeep, .funcs, .pinned], laidTests := true, laidLooks := .later }
def SequenceOrdersCardSaid : Prop := Claim7.holds Tryz.pinned (.plain (OpenSpec.ofChange sequenceOrdersSpec)) sequenceOrdersCard

/-- THE SECOND FORM's CARD OF 'monoclelaw43.SequenceOrders'. -/
def sequenceOrdersUptoCard : Claim7 := { stood := { row := sequenceOrdersUptoRow, standIns := [], harness := (true, "2a346f5b22945e1dfe05825dd688e1f2e4ad3b586ae923762861bf5f1b765119"), looks := true }, kinds := [], alts := [], laidByText := true, laidKinds := [.data, .data, .data, .data, .sentinel, .sentinel, .mappedDeep, .funcsDeep, .funcs, .widerDeep, .widerDeep, .funcs, .pinned], laidTests := true, laidLooks := .later }
def SequenceOrdersUptoCardSaid : Prop := Claim7.holds Tryz.pinned (.plain (OpenSpec.upto sequenceOrdersSpec)) sequenceOrdersUptoCard
end Rows
end Go.Proofs.YtlnbjinneegciaaGreatDoor
