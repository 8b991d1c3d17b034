/-
  The tied card of YieldSamples: for every input the law returns true and its input reads as it did; the variable surface.places is tied to the program's text (of the pruned copy).
-/
import Derived.Test.YthommhfppeonpaaGreatDoorHSamp
import Derived.Test.YthommhfppeonpaaGreatDoorTie
import Derived.Test.YthommhfppeonpaaGreatDoorCards
namespace Go.Proofs.YthommhfppeonpaaGreatDoor
open Go

theorem samples_card : Rows.YieldSamplesCardSaid :=
  Claim7.holds_tied_plain_at .later [] [.mappedDeep] true (true, "75c789b5d382b662c3e49a7d035e732927f7f16e6bcd598b55ec937e97473b06") true
    samples_said (fun _ h => by cases h) (by kernel_rfl) (fun _ h => by cases h) yieldSamples_row_tie rfl ⟨rfl, rfl⟩ (by kernel_rfl) rfl
    (fun f fn hf hfn => by
      obtain rfl : f = 3 := Option.some.inj ((show Tryz.prog.funcNamed "monocle/monoclelaw39.YieldSamples" = some 3 by kernel_rfl).symm.trans hf) |>.symm
      obtain rfl : fn = Tryz.f3 := (Option.some.inj (Tryz.func3.symm.trans hfn)).symm
      exact ⟨by kernel_rfl, fun j t ht => by
        rw [Tryz.params3] at ht
        have hm : t ∈ [34, 36, 37, 3] := by simpa using Array.mem_of_getElem? ht
        have hall : ([34, 36, 37, 3].all fun u => !Tryz.prog.wantsStandIn u) = true := by kernel_rfl
        exact (show Tryz.prog.wantsStandIn t = false by simpa using List.all_eq_true.1 hall t hm)⟩)
    (by kernel_rfl)

end Go.Proofs.YthommhfppeonpaaGreatDoor
