/-
  The tied card of SequenceOrders: for every draft, numbers and place, the law returns true; parameter lines of a surface may change places, others not. The listed variables are tied to the program's text.
-/
import Derived.Test.YtlnbjinneegciaaGreatDoorOBF
import Derived.Test.YtlnbjinneegciaaGreatDoorTie
import Derived.Test.YtlnbjinneegciaaGreatDoorCards
namespace Go.Proofs.YtlnbjinneegciaaGreatDoor
open Go.Proofs.Tryz Go
theorem sord_card:Rows.SequenceOrdersCardSaid:=
 Claim7.holds_tied_plain_at .later [] [.data,.data,.data,.data,.sentinel,.sentinel,.mappedDeep,.funcsDeep,.funcs,.widerDeep,.widerDeep,.funcs,.pinned] true (true,"2a346f5b22945e1dfe05825dd688e1f2e4ad3b586ae923762861bf5f1b765119") true
  Xv (fun _ h=>by cases h) (by kernel_rfl) (fun _ h=>by cases h) sequenceOrders_row_tie rfl ⟨rfl,rfl⟩ (by kernel_rfl) rfl
  (fun f fn hf b=>by
    obtain rfl:f=3:=aE ((show prog.funcNamed "monocle/monoclelaw43.SequenceOrders" =some 3 by kernel_rfl).symm.trans hf)|>.symm
    obtain rfl:fn=Tryz.f3:=(aE (func3.symm.trans b)).symm
    exact⟨by kernel_rfl,fun j t c=>by
     rw[Tryz.params3]at c
     have d:t∈ [30,31,5]:=by simpa using Array.mem_of_getElem? c
     have a:([30,31,5].all fun u=>!prog.wantsStandIn u)=true:=by kernel_rfl
     exact(show prog.wantsStandIn t=false by simpa using an.1 a t d)⟩)
  (by kernel_rfl)
end Go.Proofs.YtlnbjinneegciaaGreatDoor
