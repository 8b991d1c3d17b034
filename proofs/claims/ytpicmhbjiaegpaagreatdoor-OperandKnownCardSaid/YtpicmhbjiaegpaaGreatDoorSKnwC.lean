/-
  The tied card of OperandKnown: The examples, the limits and the order of errors: for every input the law returns true and its input reads as it did; the listed variables are tied to the program's text.
-/
import Derived.Test.YtpicmhbjiaegpaaGreatDoorRaa
import Derived.Test.YtpicmhbjiaegpaaGreatDoorTie
import Derived.Test.YtpicmhbjiaegpaaGreatDoorCards
namespace Go.Proofs.YtpicmhbjiaegpaaGreatDoor
open Go

theorem knw_card : Rows.OperandKnownCardSaid :=
  Claim7.holds_tied_plain_at .later [] [.data, .data, .data, .data, .sentinel, .sentinel, .pinned] true (true, "a2bfb4d0300f2a7a0fe5fc0c27a5f226cab590d0275cf802b43563f54447b3d8") true
    knw_said (fun _ h => by cases h) (by kernel_rfl) (fun _ h => by cases h) operandKnown_row_tie rfl ⟨rfl, rfl⟩ (by kernel_rfl) rfl
    (fun f fn hf hfn => by
      obtain rfl : f = 6 := Option.some.inj ((show Tryz.prog.funcNamed "monocle/monoclelaw33.OperandKnown" = some 6 by kernel_rfl).symm.trans hf) |>.symm
      obtain rfl : fn = Tryz.f6 := (Option.some.inj (Tryz.func6.symm.trans hfn)).symm
      exact ⟨by kernel_rfl, fun j t ht => by
        rw [Tryz.params6] at ht
        have hm : t ∈ [] := by simpa using Array.mem_of_getElem? ht
        have hall : ([].all fun u => !Tryz.prog.wantsStandIn u) = true := by kernel_rfl
        exact (show Tryz.prog.wantsStandIn t = false by simpa using List.all_eq_true.1 hall t hm)⟩)
    (by kernel_rfl)

end Go.Proofs.YtpicmhbjiaegpaaGreatDoor
