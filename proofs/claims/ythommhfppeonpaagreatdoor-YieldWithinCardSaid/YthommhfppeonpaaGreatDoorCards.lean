/-
  DERIVED. GIVEN WITH THE SEED: THE CARDS: each row of YthommhfppeonpaaGreatDoorRows.lean that lists a variable, with what it lists TIED to the program's text (the seventh form; the later family's looks); each row that meets fmt, with fmt's text TOLD by the authors' own Lean function (tested against real Go, not proved from fmt's source: count such statements apart). THE CARD IS WHAT COUNTS. Prove the row's statement (the work); the ties are given (YthommhfppeonpaaGreatDoorTie.lean); close each card by the builder's one call (the guide's Derived/Test/ToyasCard.lean, 'card_holds'). Laid BY PROGRAM, IN A SANDBOX (cutbox-door.mjs). By AI agents, Wed Nov 11 2026. No macro, syntax, notation, axiom, sorry.
-/
import Derived.Test.YthommhfppeonpaaGreatDoorRows
import GoSem.ClaimSeven
namespace Go.Proofs.YthommhfppeonpaaGreatDoor
namespace Rows

/-- THE TIED CARD OF 'monoclelaw39.YieldSamples'. -/
def yieldSamplesCard : Claim7 := { stood := { row := yieldSamplesRow, standIns := [], harness := (true, "75c789b5d382b662c3e49a7d035e732927f7f16e6bcd598b55ec937e97473b06"), looks := true }, kinds := [], alts := [], laidByText := true, laidKinds := [.mappedDeep], laidTests := true, laidLooks := .later }
def YieldSamplesCardSaid : Prop := Claim7.holds Tryz.pinned (.plain (OpenSpec.ofChange yieldSamplesSpec)) yieldSamplesCard

/-- THE TIED CARD OF 'monoclelaw39.YieldWithin'. -/
def yieldWithinCard : Claim7 := { stood := { row := yieldWithinRow, standIns := [], harness := (true, "75c789b5d382b662c3e49a7d035e732927f7f16e6bcd598b55ec937e97473b06"), looks := true }, kinds := [], alts := [], laidByText := true, laidKinds := [.mappedDeep], laidTests := true, laidLooks := .later }
def YieldWithinCardSaid : Prop := Claim7.holds Tryz.pinned (.plain (OpenSpec.ofChange yieldWithinSpec)) yieldWithinCard

/-- THE SECOND FORM's CARD OF 'monoclelaw39.YieldSamples'. -/
def yieldSamplesUptoCard : Claim7 := { stood := { row := yieldSamplesUptoRow, standIns := [], harness := (true, "75c789b5d382b662c3e49a7d035e732927f7f16e6bcd598b55ec937e97473b06"), looks := true }, kinds := [], alts := [], laidByText := true, laidKinds := [.mappedDeep], laidTests := true, laidLooks := .later }
def YieldSamplesUptoCardSaid : Prop := Claim7.holds Tryz.pinned (.plain (OpenSpec.upto yieldSamplesSpec)) yieldSamplesUptoCard

/-- THE SECOND FORM's CARD OF 'monoclelaw39.YieldWithin'. -/
def yieldWithinUptoCard : Claim7 := { stood := { row := yieldWithinUptoRow, standIns := [], harness := (true, "75c789b5d382b662c3e49a7d035e732927f7f16e6bcd598b55ec937e97473b06"), looks := true }, kinds := [], alts := [], laidByText := true, laidKinds := [.mappedDeep], laidTests := true, laidLooks := .later }
def YieldWithinUptoCardSaid : Prop := Claim7.holds Tryz.pinned (.plain (OpenSpec.upto yieldWithinSpec)) yieldWithinUptoCard
end Rows
end Go.Proofs.YthommhfppeonpaaGreatDoor
