/-
  The tied card of OperandChecks: Check, Same and Text agree with the reference: for every input the law returns true and its input reads as it did; the listed variables are tied to the program's text.
-/
import Derived.Test.YtpicmhbjiaegpaaGreatDoorOChk
import Derived.Test.YtpicmhbjiaegpaaGreatDoorTie
import Derived.Test.YtpicmhbjiaegpaaGreatDoorCards
namespace Go.Proofs.YtpicmhbjiaegpaaGreatDoor
open Go

theorem chk_card : Rows.OperandChecksCardSaid :=
  Claim7.holds_tied_plain_at .later [] [.data, .data, .data, .data, .sentinel, .sentinel, .pinned] true (true, "a2bfb4d0300f2a7a0fe5fc0c27a5f226cab590d0275cf802b43563f54447b3d8") true
    chk_said (fun _ h => by cases h) (by kernel_rfl) (fun _ h => by cases h) operandChecks_row_tie rfl ⟨rfl, rfl⟩ (by kernel_rfl) rfl
    (fun f fn hf hfn => by
      obtain rfl : f = 4 := Option.some.inj ((show Tryz.prog.funcNamed "monocle/monoclelaw33.OperandChecks" = some 4 by kernel_rfl).symm.trans hf) |>.symm
      obtain rfl : fn = Tryz.f4 := (Option.some.inj (Tryz.func4.symm.trans hfn)).symm
      exact ⟨by kernel_rfl, fun j t ht => by
        rw [Tryz.params4] at ht
        have hm : t ∈ [30, 22, 39] := by simpa using Array.mem_of_getElem? ht
        have hall : ([30, 22, 39].all fun u => !Tryz.prog.wantsStandIn u) = true := by kernel_rfl
        exact (show Tryz.prog.wantsStandIn t = false by simpa using List.all_eq_true.1 hall t hm)⟩)
    (by kernel_rfl)

end Go.Proofs.YtpicmhbjiaegpaaGreatDoor
