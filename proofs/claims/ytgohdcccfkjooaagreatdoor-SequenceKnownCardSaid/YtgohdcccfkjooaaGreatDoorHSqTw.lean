/-
  DERIVED. The world of the witness: the door's own heap, and the pinned table laid in it.
-/
import Derived.Test.YtgohdcccfkjooaaGreatDoorHSqTi
namespace Go.Proofs.YtgohdcccfkjooaaGreatDoor
open Go.ChangeShapes Go.WideShapes Go.ChangeAt Go.RowKit

theorem ownKnob_no : ownKnob Tryz.prog.godebug = none := by kernel_rfl
abbrev laidP : List (String × DataW Unit) := [("unicode/utf8.first", Rows.laid_unicode_utf8_first)]
def witB : List Nat := (List.range 30).filter (· != 6)
noncomputable def witW (os : Os) : World := (World.doorLaid Tryz.prog 4000 os).layVars Tryz.prog laidP
theorem wit_os (os : Os) : (witW os).os = os := (World.layVars_os _ _ _).trans rfl
theorem laid_split : (laid10.filter fun x => ["unicode/utf8.first"].contains x.1) = laidP := by kernel_rfl
abbrev laid9 : List (String × DataW Unit) := [("math/bits.deBruijn32tab", Rows.laid_math_bits_deBruijn32tab), ("math/bits.deBruijn64tab", Rows.laid_math_bits_deBruijn64tab), ("internal/strconv.uint64pow10", Rows.laid_internal_strconv_uint64pow10), ("unicode/utf8.acceptRanges", Rows.laid_unicode_utf8_acceptRanges), ("strconv.ErrRange", Rows.laid_strconv_ErrRange), ("strconv.ErrSyntax", Rows.laid_strconv_ErrSyntax), ("monocle/surface.places", Rows.laid_monocle_surface_places), ("monocle/sequence.kinds", Rows.laid_monocle_sequence_kinds), ("monocle/sequence.order", Rows.laid_monocle_sequence_order)]
theorem laid_split9 : (laid10.filter fun x => !["unicode/utf8.first"].contains x.1) = laid9 := by kernel_rfl
theorem wit_fits (os : Os) : (World.doorLaid Tryz.prog 4000 os).layFits Tryz.prog laidP witB = true := by kernel_rfl
theorem wit_ifaces (os : Os) : (World.doorLaid Tryz.prog 4000 os).layIfaces Tryz.prog laidP (witW os) = true := by kernel_rfl
theorem wit_in (os : Os) : LaidIn Tryz.prog (witW os) laid9 witB := LaidIn.of_run witB 8 (by kernel_rfl) (by kernel_rfl) (by kernel_rfl) (by kernel_rfl)
theorem wit_plain (os : Os) : laidMet Tryz.prog laid10 (witW os) :=
  laidMet_layVars (w0 := World.doorLaid Tryz.prog 4000 os) ["unicode/utf8.first"] witB (by rw [laid_split]; rfl) (by rw [laid_split]; exact wit_fits os) (by rw [laid_split]; exact wit_ifaces os) (by rw [laid_split9]; exact wit_in os)
theorem wit_laid (os : Os) (args : Array Value) : laidMetH Tryz.prog laid13 ((witW os).forCall (fun _ _ => 0) ⟨#[], args, []⟩).memory :=
  laidMetH_of_parts3 (fuel := 8) (by rw [laid_is10]; exact (wit_plain os).of_heap (by simp [World.memory, World.forCall, Input.heap])) (by kernel_rfl) (by kernel_rfl)
theorem wit_shaped (os : Os) (args : Array Value) : ((witW os).forCall (fun _ _ => 0) ⟨#[], args, []⟩).Shaped Tryz.prog :=
  World.shaped_of_RefB (by kernel_rfl) (by kernel_rfl)
end Go.Proofs.YtgohdcccfkjooaaGreatDoor
