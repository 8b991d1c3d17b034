/-
  DERIVED. GIVEN WITH THE SEED: THE CARDS: each row of YtlnbjinneegciabGreatDoorRows.lean that lists a variable, with what it lists TIED to the program's text (the seventh form; the later family's looks); each row that meets fmt, with fmt's text TOLD by the authors' own Lean function (tested against real Go, not proved from fmt's source: count such statements apart). THE CARD IS WHAT COUNTS. Prove the row's statement (the work); the ties are given (YtlnbjinneegciabGreatDoorTie.lean); close each card by the builder's one call (the guide's Derived/Test/ToyasCard.lean, 'card_holds'). Laid BY PROGRAM, IN A SANDBOX (cutbox-door.mjs). By AI agents, Wed Nov 11 2026. No macro, syntax, notation, axiom, sorry.
-/
import Derived.Test.YtlnbjinneegciabGreatDoorRows
import GoSem.ClaimSeven
namespace Go.Proofs.YtlnbjinneegciabGreatDoor
namespace Rows

/-- THE TIED CARD OF 'monoclelaw43.SequenceTexts'. -/
def sequenceTextsCard : Claim7 := { stood := { row := sequenceTextsRow, standIns := [], harness := (true, "f6ee3d5fcc46e2b0e8a752cf15e62becfd8109e59bc840ba8d5bf928a21fb635"), looks := true }, kinds := [], alts := [], laidByText := true, laidKinds := [.data, .data, .data, .data, .sentinel, .sentinel, .mappedDeep, .funcsDeep, .funcs, .widerDeep, .widerDeep, .funcs, .pinned], laidTests := true, laidLooks := .later }
def SequenceTextsCardSaid : Prop := Claim7.holds Tryz.pinned (.plain (OpenSpec.ofChange sequenceTextsSpec)) sequenceTextsCard

/-- THE SECOND FORM's CARD OF 'monoclelaw43.SequenceTexts'. -/
def sequenceTextsUptoCard : Claim7 := { stood := { row := sequenceTextsUptoRow, standIns := [], harness := (true, "f6ee3d5fcc46e2b0e8a752cf15e62becfd8109e59bc840ba8d5bf928a21fb635"), looks := true }, kinds := [], alts := [], laidByText := true, laidKinds := [.data, .data, .data, .data, .sentinel, .sentinel, .mappedDeep, .funcsDeep, .funcs, .widerDeep, .widerDeep, .funcs, .pinned], laidTests := true, laidLooks := .later }
def SequenceTextsUptoCardSaid : Prop := Claim7.holds Tryz.pinned (.plain (OpenSpec.upto sequenceTextsSpec)) sequenceTextsUptoCard
end Rows
end Go.Proofs.YtlnbjinneegciabGreatDoor
