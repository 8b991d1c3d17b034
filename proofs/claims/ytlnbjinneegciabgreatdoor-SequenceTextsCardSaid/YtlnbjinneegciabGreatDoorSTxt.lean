/-
  The tied card of SequenceTexts: the written text of a lens is the plain reading's text, and what is refused is refused alike: the law returns true; the listed variables are tied to the program's text.
-/
import Derived.Test.YtlnbjinneegciabGreatDoorTBL
import Derived.Test.YtlnbjinneegciabGreatDoorTie
import Derived.Test.YtlnbjinneegciabGreatDoorCards
namespace Go.Proofs.YtlnbjinneegciabGreatDoor
open Go.Proofs.Tryz Go
theorem stxt_card:Rows.SequenceTextsCardSaid:=
 Claim7.holds_tied_plain_at .later [] [.data,.data,.data,.data,.sentinel,.sentinel,.mappedDeep,.funcsDeep,.funcs,.widerDeep,.widerDeep,.funcs,.pinned] true (true,"f6ee3d5fcc46e2b0e8a752cf15e62becfd8109e59bc840ba8d5bf928a21fb635") true
  Zu (fun _ h=>by cases h) (by kernel_rfl) (fun _ h=>by cases h) sequenceTexts_row_tie rfl ⟨rfl,rfl⟩ (by kernel_rfl) rfl
  (fun f fn hf b=>by
    obtain rfl:f=3:=aE ((show prog.funcNamed "monocle/monoclelaw43.SequenceTexts" =some 3 by kernel_rfl).symm.trans hf)|>.symm
    obtain rfl:fn=Tryz.f3:=(aE (func3.symm.trans b)).symm
    exact⟨by kernel_rfl,fun j t c=>by
     rw[Tryz.params3]at c
     have d:t∈ [30,31,5]:=by simpa using Array.mem_of_getElem? c
     have a:([30,31,5].all fun u=>!prog.wantsStandIn u)=true:=by kernel_rfl
     exact(show prog.wantsStandIn t=false by simpa using an.1 a t d)⟩)
  (by kernel_rfl)
end Go.Proofs.YtlnbjinneegciabGreatDoor
