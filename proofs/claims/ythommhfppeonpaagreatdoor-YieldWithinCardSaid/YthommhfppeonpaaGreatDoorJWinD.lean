/-
  The tied card of YieldWithin: for every input the law returns true and its input reads as it did; the variable surface.places is tied to the program's text (of the pruned copy).
-/
import Derived.Test.YthommhfppeonpaaGreatDoorJWin
import Derived.Test.YthommhfppeonpaaGreatDoorTie
import Derived.Test.YthommhfppeonpaaGreatDoorCards
namespace Go.Proofs.YthommhfppeonpaaGreatDoor
open Go

theorem within_card : Rows.YieldWithinCardSaid :=
  Claim7.holds_tied_plain_at .later [] [.mappedDeep] true (true, "75c789b5d382b662c3e49a7d035e732927f7f16e6bcd598b55ec937e97473b06") true
    within_said (fun _ h => by cases h) (by kernel_rfl) (fun _ h => by cases h) yieldWithin_row_tie rfl ⟨rfl, rfl⟩ (by kernel_rfl) rfl
    (fun f fn hf hfn => by
      obtain rfl : f = 4 := Option.some.inj ((show Tryz.prog.funcNamed "monocle/monoclelaw39.YieldWithin" = some 4 by kernel_rfl).symm.trans hf) |>.symm
      obtain rfl : fn = Tryz.f4 := (Option.some.inj (Tryz.func4.symm.trans hfn)).symm
      exact ⟨by kernel_rfl, fun j t ht => by
        rw [Tryz.params4] at ht
        have hm : t ∈ [34, 37] := by simpa using Array.mem_of_getElem? ht
        have hall : ([34, 37].all fun u => !Tryz.prog.wantsStandIn u) = true := by kernel_rfl
        exact (show Tryz.prog.wantsStandIn t = false by simpa using List.all_eq_true.1 hall t hm)⟩)
    (by kernel_rfl)

end Go.Proofs.YthommhfppeonpaaGreatDoor
