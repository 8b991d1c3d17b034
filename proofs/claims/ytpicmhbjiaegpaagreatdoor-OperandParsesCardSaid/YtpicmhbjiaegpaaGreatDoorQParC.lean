/-
  The tied card of OperandParses: Parse agrees with the reference: for every input the law returns true and its input reads as it did; the listed variables are tied to the program's text.
-/
import Derived.Test.YtpicmhbjiaegpaaGreatDoorQPar
import Derived.Test.YtpicmhbjiaegpaaGreatDoorTie
import Derived.Test.YtpicmhbjiaegpaaGreatDoorCards
namespace Go.Proofs.YtpicmhbjiaegpaaGreatDoor
open Go

theorem par_card : Rows.OperandParsesCardSaid :=
  Claim7.holds_tied_plain_at .later [] [.data, .data, .data, .data, .sentinel, .sentinel, .pinned] true (true, "a2bfb4d0300f2a7a0fe5fc0c27a5f226cab590d0275cf802b43563f54447b3d8") true
    par_said (fun _ h => by cases h) (by kernel_rfl) (fun _ h => by cases h) operandParses_row_tie rfl ⟨rfl, rfl⟩ (by kernel_rfl) rfl
    (fun f fn hf hfn => by
      obtain rfl : f = 3 := Option.some.inj ((show Tryz.prog.funcNamed "monocle/monoclelaw33.OperandParses" = some 3 by kernel_rfl).symm.trans hf) |>.symm
      obtain rfl : fn = Tryz.f3 := (Option.some.inj (Tryz.func3.symm.trans hfn)).symm
      exact ⟨by kernel_rfl, fun j t ht => by
        rw [Tryz.params3] at ht
        have hm : t ∈ [9, 22, 25, 25] := by simpa using Array.mem_of_getElem? ht
        have hall : ([9, 22, 25, 25].all fun u => !Tryz.prog.wantsStandIn u) = true := by kernel_rfl
        exact (show Tryz.prog.wantsStandIn t = false by simpa using List.all_eq_true.1 hall t hm)⟩)
    (by kernel_rfl)

end Go.Proofs.YtpicmhbjiaegpaaGreatDoor
