/-
  The tied card of OperandCanon: for every input the law returns true and its input reads as it did; the listed variables are tied to the program's text.
-/
import Derived.Test.YtpicmhbjiaegpaaGreatDoorHCan
import Derived.Test.YtpicmhbjiaegpaaGreatDoorTie
import Derived.Test.YtpicmhbjiaegpaaGreatDoorCards
namespace Go.Proofs.YtpicmhbjiaegpaaGreatDoor
open Go

theorem canon_card : Rows.OperandCanonCardSaid :=
  Claim7.holds_tied_plain_at .later [] [.data, .data, .data, .data, .sentinel, .sentinel, .pinned] true (true, "a2bfb4d0300f2a7a0fe5fc0c27a5f226cab590d0275cf802b43563f54447b3d8") true
    canon_said (fun _ h => by cases h) (by kernel_rfl) (fun _ h => by cases h) operandCanon_row_tie rfl ⟨rfl, rfl⟩ (by kernel_rfl) rfl
    (fun f fn hf hfn => by
      obtain rfl : f = 5 := Option.some.inj ((show Tryz.prog.funcNamed "monocle/monoclelaw33.OperandCanon" = some 5 by kernel_rfl).symm.trans hf) |>.symm
      obtain rfl : fn = Tryz.f5 := (Option.some.inj (Tryz.func5.symm.trans hfn)).symm
      exact ⟨by kernel_rfl, fun j t ht => by
        rw [Tryz.params5] at ht
        have hm : t ∈ [9, 22, 25] := by simpa using Array.mem_of_getElem? ht
        have hall : ([9, 22, 25].all fun u => !Tryz.prog.wantsStandIn u) = true := by kernel_rfl
        exact (show Tryz.prog.wantsStandIn t = false by simpa using List.all_eq_true.1 hall t hm)⟩)
    (by kernel_rfl)

end Go.Proofs.YtpicmhbjiaegpaaGreatDoor
