/-
  DERIVED. GIVEN WITH THE SEED: THE CARDS: each row of YtpicmhbjiaegpaaGreatDoorRows.lean that lists a variable, with what it lists TIED to the program's text (the seventh form; the later family's looks); each row that meets fmt, with fmt's text TOLD by the authors' own Lean function (tested against real Go, not proved from fmt's source: count such statements apart). THE CARD IS WHAT COUNTS. Prove the row's statement (the work); the ties are given (YtpicmhbjiaegpaaGreatDoorTie.lean); close each card by the builder's one call (the guide's Derived/Test/ToyasCard.lean, 'card_holds'). Laid BY PROGRAM, IN A SANDBOX (cutbox-door.mjs). By AI agents, Wed Nov 11 2026. No macro, syntax, notation, axiom, sorry.
-/
import Derived.Test.YtpicmhbjiaegpaaGreatDoorRows
import GoSem.ClaimSeven
namespace Go.Proofs.YtpicmhbjiaegpaaGreatDoor
namespace Rows

/-- THE TIED CARD OF 'monoclelaw33.OperandParses'. -/
def operandParsesCard : Claim7 := { stood := { row := operandParsesRow, standIns := [], harness := (true, "a2bfb4d0300f2a7a0fe5fc0c27a5f226cab590d0275cf802b43563f54447b3d8"), looks := true }, kinds := [], alts := [], laidByText := true, laidKinds := [.data, .data, .data, .data, .sentinel, .sentinel, .pinned], laidTests := true, laidLooks := .later }
def OperandParsesCardSaid : Prop := Claim7.holds Tryz.pinned (.plain (OpenSpec.ofChange operandParsesSpec)) operandParsesCard

/-- THE TIED CARD OF 'monoclelaw33.OperandChecks'. -/
def operandChecksCard : Claim7 := { stood := { row := operandChecksRow, standIns := [], harness := (true, "a2bfb4d0300f2a7a0fe5fc0c27a5f226cab590d0275cf802b43563f54447b3d8"), looks := true }, kinds := [], alts := [], laidByText := true, laidKinds := [.data, .data, .data, .data, .sentinel, .sentinel, .pinned], laidTests := true, laidLooks := .later }
def OperandChecksCardSaid : Prop := Claim7.holds Tryz.pinned (.plain (OpenSpec.ofChange operandChecksSpec)) operandChecksCard

/-- THE TIED CARD OF 'monoclelaw33.OperandCanon'. -/
def operandCanonCard : Claim7 := { stood := { row := operandCanonRow, standIns := [], harness := (true, "a2bfb4d0300f2a7a0fe5fc0c27a5f226cab590d0275cf802b43563f54447b3d8"), looks := true }, kinds := [], alts := [], laidByText := true, laidKinds := [.data, .data, .data, .data, .sentinel, .sentinel, .pinned], laidTests := true, laidLooks := .later }
def OperandCanonCardSaid : Prop := Claim7.holds Tryz.pinned (.plain (OpenSpec.ofChange operandCanonSpec)) operandCanonCard

/-- THE TIED CARD OF 'monoclelaw33.OperandKnown'. -/
def operandKnownCard : Claim7 := { stood := { row := operandKnownRow, standIns := [], harness := (true, "a2bfb4d0300f2a7a0fe5fc0c27a5f226cab590d0275cf802b43563f54447b3d8"), looks := true }, kinds := [], alts := [], laidByText := true, laidKinds := [.data, .data, .data, .data, .sentinel, .sentinel, .pinned], laidTests := true, laidLooks := .later }
def OperandKnownCardSaid : Prop := Claim7.holds Tryz.pinned (.plain (OpenSpec.ofChange operandKnownSpec)) operandKnownCard

/-- THE TIED CARD OF 'monoclelaw33.OperandBack'. -/
def operandBackCard : Claim7 := { stood := { row := operandBackRow, standIns := [], harness := (true, "a2bfb4d0300f2a7a0fe5fc0c27a5f226cab590d0275cf802b43563f54447b3d8"), looks := true }, kinds := [], alts := [], laidByText := true, laidKinds := [.data, .data, .data, .data, .sentinel, .sentinel, .pinned], laidTests := true, laidLooks := .later }
def OperandBackCardSaid : Prop := Claim7.holds Tryz.pinned (.plain (OpenSpec.ofChange operandBackSpec)) operandBackCard

/-- THE TIED CARD OF 'monoclelaw33.OperandStops'. -/
def operandStopsCard : Claim7 := { stood := { row := operandStopsRow, standIns := [], harness := (true, "a2bfb4d0300f2a7a0fe5fc0c27a5f226cab590d0275cf802b43563f54447b3d8"), looks := true }, kinds := [], alts := [], laidByText := true, laidKinds := [.data, .data, .data, .data, .sentinel, .sentinel, .pinned], laidTests := true, laidLooks := .later }
def OperandStopsCardSaid : Prop := Claim7.holds Tryz.pinned (.plain (OpenSpec.ofChange operandStopsSpec)) operandStopsCard

/-- THE SECOND FORM's CARD OF 'monoclelaw33.OperandParses'. -/
def operandParsesUptoCard : Claim7 := { stood := { row := operandParsesUptoRow, standIns := [], harness := (true, "a2bfb4d0300f2a7a0fe5fc0c27a5f226cab590d0275cf802b43563f54447b3d8"), looks := true }, kinds := [], alts := [], laidByText := true, laidKinds := [.data, .data, .data, .data, .sentinel, .sentinel, .pinned], laidTests := true, laidLooks := .later }
def OperandParsesUptoCardSaid : Prop := Claim7.holds Tryz.pinned (.plain (OpenSpec.upto operandParsesSpec)) operandParsesUptoCard

/-- THE SECOND FORM's CARD OF 'monoclelaw33.OperandChecks'. -/
def operandChecksUptoCard : Claim7 := { stood := { row := operandChecksUptoRow, standIns := [], harness := (true, "a2bfb4d0300f2a7a0fe5fc0c27a5f226cab590d0275cf802b43563f54447b3d8"), looks := true }, kinds := [], alts := [], laidByText := true, laidKinds := [.data, .data, .data, .data, .sentinel, .sentinel, .pinned], laidTests := true, laidLooks := .later }
def OperandChecksUptoCardSaid : Prop := Claim7.holds Tryz.pinned (.plain (OpenSpec.upto operandChecksSpec)) operandChecksUptoCard

/-- THE SECOND FORM's CARD OF 'monoclelaw33.OperandCanon'. -/
def operandCanonUptoCard : Claim7 := { stood := { row := operandCanonUptoRow, standIns := [], harness := (true, "a2bfb4d0300f2a7a0fe5fc0c27a5f226cab590d0275cf802b43563f54447b3d8"), looks := true }, kinds := [], alts := [], laidByText := true, laidKinds := [.data, .data, .data, .data, .sentinel, .sentinel, .pinned], laidTests := true, laidLooks := .later }
def OperandCanonUptoCardSaid : Prop := Claim7.holds Tryz.pinned (.plain (OpenSpec.upto operandCanonSpec)) operandCanonUptoCard

/-- THE SECOND FORM's CARD OF 'monoclelaw33.OperandKnown'. -/
def operandKnownUptoCard : Claim7 := { stood := { row := operandKnownUptoRow, standIns := [], harness := (true, "a2bfb4d0300f2a7a0fe5fc0c27a5f226cab590d0275cf802b43563f54447b3d8"), looks := true }, kinds := [], alts := [], laidByText := true, laidKinds := [.data, .data, .data, .data, .sentinel, .sentinel, .pinned], laidTests := true, laidLooks := .later }
def OperandKnownUptoCardSaid : Prop := Claim7.holds Tryz.pinned (.plain (OpenSpec.upto operandKnownSpec)) operandKnownUptoCard

/-- THE SECOND FORM's CARD OF 'monoclelaw33.OperandBack'. -/
def operandBackUptoCard : Claim7 := { stood := { row := operandBackUptoRow, standIns := [], harness := (true, "a2bfb4d0300f2a7a0fe5fc0c27a5f226cab590d0275cf802b43563f54447b3d8"), looks := true }, kinds := [], alts := [], laidByText := true, laidKinds := [.data, .data, .data, .data, .sentinel, .sentinel, .pinned], laidTests := true, laidLooks := .later }
def OperandBackUptoCardSaid : Prop := Claim7.holds Tryz.pinned (.plain (OpenSpec.upto operandBackSpec)) operandBackUptoCard

/-- THE SECOND FORM's CARD OF 'monoclelaw33.OperandStops'. -/
def operandStopsUptoCard : Claim7 := { stood := { row := operandStopsUptoRow, standIns := [], harness := (true, "a2bfb4d0300f2a7a0fe5fc0c27a5f226cab590d0275cf802b43563f54447b3d8"), looks := true }, kinds := [], alts := [], laidByText := true, laidKinds := [.data, .data, .data, .data, .sentinel, .sentinel, .pinned], laidTests := true, laidLooks := .later }
def OperandStopsUptoCardSaid : Prop := Claim7.holds Tryz.pinned (.plain (OpenSpec.upto operandStopsSpec)) operandStopsUptoCard
end Rows
end Go.Proofs.YtpicmhbjiaegpaaGreatDoor
