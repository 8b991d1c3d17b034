/-
  SequenceSkips: blanks, empty lines and comments change nothing; no conditions.
-/
import Derived.Test.YtgohdcccfkjooaaGreatDoorSBF
import Derived.Test.YtgohdcccfkjooaaGreatDoorTie
import Derived.Test.YtgohdcccfkjooaaGreatDoorCards
namespace Go.Proofs.YtgohdcccfkjooaaGreatDoor
open Go.Proofs.Tryz Go
theorem sskip_card:Rows.SequenceSkipsCardSaid:=
 Claim7.holds_tied_plain_at .later [] [.data,.data,.data,.data,.sentinel,.sentinel,.mappedDeep,.funcsDeep,.funcs,.widerDeep,.widerDeep,.funcs,.pinned] true (true,"f41d5139fa07602b4a8d85a15894be9efa06e1a04dda3095869d3e9d4051e9c5") true
  Vg (fun _ h=>by cases h) (by kernel_rfl) (fun _ h=>by cases h) sequenceSkips_row_tie rfl ⟨rfl,rfl⟩ (by kernel_rfl) rfl
  (fun f fn hf b=>by
    obtain rfl:f=7:=aE ((show prog.funcNamed "monocle/monoclelaw43.SequenceSkips" =some 7 by kernel_rfl).symm.trans hf)|>.symm
    obtain rfl:fn=f7:=(aE (func7.symm.trans b)).symm
    exact⟨by kernel_rfl,fun j t c=>by
     rw[params7]at c
     have d:t∈ [30,31,83,9]:=by simpa using Array.mem_of_getElem? c
     have a:([30,31,83,9].all fun u=>!prog.wantsStandIn u)=true:=by kernel_rfl
     exact(show prog.wantsStandIn t=false by simpa using an.1 a t d)⟩)
  (by kernel_rfl)
end Go.Proofs.YtgohdcccfkjooaaGreatDoor
