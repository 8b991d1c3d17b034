/-
  The tied card of SequenceKnown: the examples of the first file format, all parameters, films, configurations, malformed lines and limits: the law returns true; the listed variables are tied to the program's text.
-/
import Derived.Test.YtgohdcccfkjooaaGreatDoorHSqKr
import Derived.Test.YtgohdcccfkjooaaGreatDoorTie
import Derived.Test.YtgohdcccfkjooaaGreatDoorCards
namespace Go.Proofs.YtgohdcccfkjooaaGreatDoor
open Go

theorem sknown_card : Rows.SequenceKnownCardSaid :=
  Claim7.holds_tied_plain_at .later [] [.data, .data, .data, .data, .sentinel, .sentinel, .mappedDeep, .funcsDeep, .funcs, .widerDeep, .widerDeep, .funcs, .pinned] true (true, "f41d5139fa07602b4a8d85a15894be9efa06e1a04dda3095869d3e9d4051e9c5") true
    sknown_said (fun _ h => by cases h) (by kernel_rfl) (fun _ h => by cases h) sequenceKnown_row_tie rfl ⟨rfl, rfl⟩ (by kernel_rfl) rfl
    (fun f fn hf hfn => by
      obtain rfl : f = 6 := Option.some.inj ((show Tryz.prog.funcNamed "monocle/monoclelaw43.SequenceKnown" = some 6 by kernel_rfl).symm.trans hf) |>.symm
      obtain rfl : fn = Tryz.f6 := (Option.some.inj (Tryz.func6.symm.trans hfn)).symm
      exact ⟨by kernel_rfl, fun j t ht => by
        rw [Tryz.params6] at ht
        have hm : t ∈ [] := by simpa using Array.mem_of_getElem? ht
        have hall : ([].all fun u => !Tryz.prog.wantsStandIn u) = true := by kernel_rfl
        exact (show Tryz.prog.wantsStandIn t = false by simpa using List.all_eq_true.1 hall t hm)⟩)
    (by kernel_rfl)

end Go.Proofs.YtgohdcccfkjooaaGreatDoor
