/-
  DERIVED. GIVEN WITH THE SEED: THE CARDS: each row of YtgohdcccfkjooaaGreatDoorRows.lean that lists a variable, with what it lists TIED to the program's text (the seventh form; the later family's looks); each row that meets fmt, with fmt's text TOLD by the authors' own Lean function (tested against real Go, not proved from fmt's source: count such statements apart). THE CARD IS WHAT COUNTS. Prove the row's statement (the work); the ties are given (YtgohdcccfkjooaaGreatDoorTie.lean); close each card by the builder's one call (the guide's Derived/Test/ToyasCard.lean, 'card_holds'). Laid BY PROGRAM, IN A SANDBOX (cutbox-door.mjs). By AI agents, Wed Nov 11 2026. No macro, syntax, notation, axiom, sorry.
-/
import Derived.Test.YtgohdcccfkjooaaGreatDoorRows
import GoSem.ClaimSeven
namespace Go.Proofs.YtgohdcccfkjooaaGreatDoor
namespace Rows

/-- THE TIED CARD OF 'monoclelaw43.SequenceTexts'. -/
def sequenceTextsCard : Claim7 := { stood := { row := sequenceTextsRow, standIns := [], harness := (true, "f41d5139fa07602b4a8d85a15894be9efa06e1a04dda3095869d3e9d4051e9c5"), looks := true }, kinds := [], alts := [], laidByText := true, laidKinds := [.data, .data, .data, .data, .sentinel, .sentinel, .mappedDeep, .funcsDeep, .funcs, .widerDeep, .widerDeep, .funcs, .pinned], laidTests := true, laidLooks := .later }
def SequenceTextsCardSaid : Prop := Claim7.holds Tryz.pinned (.plain (OpenSpec.ofChange sequenceTextsSpec)) sequenceTextsCard

/-- THE TIED CARD OF 'monoclelaw43.SequenceParses'. -/
def sequenceParsesCard : Claim7 := { stood := { row := sequenceParsesRow, standIns := [], harness := (true, "f41d5139fa07602b4a8d85a15894be9efa06e1a04dda3095869d3e9d4051e9c5"), looks := true }, kinds := [], alts := [], laidByText := true, laidKinds := [.data, .data, .data, .data, .sentinel, .sentinel, .mappedDeep, .funcsDeep, .funcs, .widerDeep, .widerDeep, .funcs, .pinned], laidTests := true, laidLooks := .later }
def SequenceParsesCardSaid : Prop := Claim7.holds Tryz.pinned (.plain (OpenSpec.ofChange sequenceParsesSpec)) sequenceParsesCard

/-- THE TIED CARD OF 'monoclelaw43.SequenceBack'. -/
def sequenceBackCard : Claim7 := { stood := { row := sequenceBackRow, standIns := [], harness := (true, "f41d5139fa07602b4a8d85a15894be9efa06e1a04dda3095869d3e9d4051e9c5"), looks := true }, kinds := [], alts := [], laidByText := true, laidKinds := [.data, .data, .data, .data, .sentinel, .sentinel, .mappedDeep, .funcsDeep, .funcs, .widerDeep, .widerDeep, .funcs, .pinned], laidTests := true, laidLooks := .later }
def SequenceBackCardSaid : Prop := Claim7.holds Tryz.pinned (.plain (OpenSpec.ofChange sequenceBackSpec)) sequenceBackCard

/-- THE TIED CARD OF 'monoclelaw43.SequenceKnown'. -/
def sequenceKnownCard : Claim7 := { stood := { row := sequenceKnownRow, standIns := [], harness := (true, "f41d5139fa07602b4a8d85a15894be9efa06e1a04dda3095869d3e9d4051e9c5"), looks := true }, kinds := [], alts := [], laidByText := true, laidKinds := [.data, .data, .data, .data, .sentinel, .sentinel, .mappedDeep, .funcsDeep, .funcs, .widerDeep, .widerDeep, .funcs, .pinned], laidTests := true, laidLooks := .later }
def SequenceKnownCardSaid : Prop := Claim7.holds Tryz.pinned (.plain (OpenSpec.ofChange sequenceKnownSpec)) sequenceKnownCard

/-- THE TIED CARD OF 'monoclelaw43.SequenceSkips'. -/
def sequenceSkipsCard : Claim7 := { stood := { row := sequenceSkipsRow, standIns := [], harness := (true, "f41d5139fa07602b4a8d85a15894be9efa06e1a04dda3095869d3e9d4051e9c5"), looks := true }, kinds := [], alts := [], laidByText := true, laidKinds := [.data, .data, .data, .data, .sentinel, .sentinel, .mappedDeep, .funcsDeep, .funcs, .widerDeep, .widerDeep, .funcs, .pinned], laidTests := true, laidLooks := .later }
def SequenceSkipsCardSaid : Prop := Claim7.holds Tryz.pinned (.plain (OpenSpec.ofChange sequenceSkipsSpec)) sequenceSkipsCard

/-- THE TIED CARD OF 'monoclelaw43.SequenceOrders'. -/
def sequenceOrdersCard : Claim7 := { stood := { row := sequenceOrdersRow, standIns := [], harness := (true, "f41d5139fa07602b4a8d85a15894be9efa06e1a04dda3095869d3e9d4051e9c5"), looks := true }, kinds := [], alts := [], laidByText := true, laidKinds := [.data, .data, .data, .data, .sentinel, .sentinel, .mappedDeep, .funcsDeep, .funcs, .widerDeep, .widerDeep, .funcs, .pinned], laidTests := true, laidLooks := .later }
def SequenceOrdersCardSaid : Prop := Claim7.holds Tryz.pinned (.plain (OpenSpec.ofChange sequenceOrdersSpec)) sequenceOrdersCard

/-- THE SECOND FORM's CARD OF 'monoclelaw43.SequenceTexts'. -/
def sequenceTextsUptoCard : Claim7 := { stood := { row := sequenceTextsUptoRow, standIns := [], harness := (true, "f41d5139fa07602b4a8d85a15894be9efa06e1a04dda3095869d3e9d4051e9c5"), looks := true }, kinds := [], alts := [], laidByText := true, laidKinds := [.data, .data, .data, .data, .sentinel, .sentinel, .mappedDeep, .funcsDeep, .funcs, .widerDeep, .widerDeep, .funcs, .pinned], laidTests := true, laidLooks := .later }
def SequenceTextsUptoCardSaid : Prop := Claim7.holds Tryz.pinned (.plain (OpenSpec.upto sequenceTextsSpec)) sequenceTextsUptoCard

/-- THE SECOND FORM's CARD OF 'monoclelaw43.SequenceParses'. -/
def sequenceParsesUptoCard : Claim7 := { stood := { row := sequenceParsesUptoRow, standIns := [], harness := (true, "f41d5139fa07602b4a8d85a15894be9efa06e1a04dda3095869d3e9d4051e9c5"), looks := true }, kinds := [], alts := [], laidByText := true, laidKinds := [.data, .data, .data, .data, .sentinel, .sentinel, .mappedDeep, .funcsDeep, .funcs, .widerDeep, .widerDeep, .funcs, .pinned], laidTests := true, laidLooks := .later }
def SequenceParsesUptoCardSaid : Prop := Claim7.holds Tryz.pinned (.plain (OpenSpec.upto sequenceParsesSpec)) sequenceParsesUptoCard

/-- THE SECOND FORM's CARD OF 'monoclelaw43.SequenceBack'. -/
def sequenceBackUptoCard : Claim7 := { stood := { row := sequenceBackUptoRow, standIns := [], harness := (true, "f41d5139fa07602b4a8d85a15894be9efa06e1a04dda3095869d3e9d4051e9c5"), looks := true }, kinds := [], alts := [], laidByText := true, laidKinds := [.data, .data, .data, .data, .sentinel, .sentinel, .mappedDeep, .funcsDeep, .funcs, .widerDeep, .widerDeep, .funcs, .pinned], laidTests := true, laidLooks := .later }
def SequenceBackUptoCardSaid : Prop := Claim7.holds Tryz.pinned (.plain (OpenSpec.upto sequenceBackSpec)) sequenceBackUptoCard

/-- THE SECOND FORM's CARD OF 'monoclelaw43.SequenceKnown'. -/
def sequenceKnownUptoCard : Claim7 := { stood := { row := sequenceKnownUptoRow, standIns := [], harness := (true, "f41d5139fa07602b4a8d85a15894be9efa06e1a04dda3095869d3e9d4051e9c5"), looks := true }, kinds := [], alts := [], laidByText := true, laidKinds := [.data, .data, .data, .data, .sentinel, .sentinel, .mappedDeep, .funcsDeep, .funcs, .widerDeep, .widerDeep, .funcs, .pinned], laidTests := true, laidLooks := .later }
def SequenceKnownUptoCardSaid : Prop := Claim7.holds Tryz.pinned (.plain (OpenSpec.upto sequenceKnownSpec)) sequenceKnownUptoCard

/-- THE SECOND FORM's CARD OF 'monoclelaw43.SequenceSkips'. -/
def sequenceSkipsUptoCard : Claim7 := { stood := { row := sequenceSkipsUptoRow, standIns := [], harness := (true, "f41d5139fa07602b4a8d85a15894be9efa06e1a04dda3095869d3e9d4051e9c5"), looks := true }, kinds := [], alts := [], laidByText := true, laidKinds := [.data, .data, .data, .data, .sentinel, .sentinel, .mappedDeep, .funcsDeep, .funcs, .widerDeep, .widerDeep, .funcs, .pinned], laidTests := true, laidLooks := .later }
def SequenceSkipsUptoCardSaid : Prop := Claim7.holds Tryz.pinned (.plain (OpenSpec.upto sequenceSkipsSpec)) sequenceSkipsUptoCard

/-- THE SECOND FORM's CARD OF 'monoclelaw43.SequenceOrders'. -/
def sequenceOrdersUptoCard : Claim7 := { stood := { row := sequenceOrdersUptoRow, standIns := [], harness := (true, "f41d5139fa07602b4a8d85a15894be9efa06e1a04dda3095869d3e9d4051e9c5"), looks := true }, kinds := [], alts := [], laidByText := true, laidKinds := [.data, .data, .data, .data, .sentinel, .sentinel, .mappedDeep, .funcsDeep, .funcs, .widerDeep, .widerDeep, .funcs, .pinned], laidTests := true, laidLooks := .later }
def SequenceOrdersUptoCardSaid : Prop := Claim7.holds Tryz.pinned (.plain (OpenSpec.upto sequenceOrdersSpec)) sequenceOrdersUptoCard
end Rows
end Go.Proofs.YtgohdcccfkjooaaGreatDoor
