import Derived.Test.YtlnbjinneegciabGreatDoorTBJ
namespace Go.Proofs.YtlnbjinneegciabGreatDoor
set_option linter.all false
open Go.Proofs.Tryz Go.ChangeShapes Go.WideShapes Go.ChangeAt Go.RowKit
def Jc:ownKnob prog.godebug=none:=by kernel_rfl
abbrev JW:List (String×DataW Unit):=[("unicode/utf8.first",Rows.laid_unicode_utf8_first)]
def Qu:List Nat:=(List.range 30).filter (·!=8)
noncomputable def Jd(os:Os):World:=(World.doorLaid prog 4000 os).layVars prog JW
def Se(os:Os):(Jd os).os=os:=(World.layVars_os _ _ _).trans rfl
def vL:(xA.filter fun x=>["unicode/utf8.first"].contains x.1)=JW:=by kernel_rfl
abbrev QD:List (String×DataW Unit):=[("math/bits.deBruijn32tab",Rows.laid_math_bits_deBruijn32tab),("math/bits.deBruijn64tab",Rows.laid_math_bits_deBruijn64tab),("internal/strconv.uint64pow10",Rows.laid_internal_strconv_uint64pow10),("unicode/utf8.acceptRanges",Rows.laid_unicode_utf8_acceptRanges),("strconv.ErrRange",Rows.laid_strconv_ErrRange),("strconv.ErrSyntax",Rows.laid_strconv_ErrSyntax),("monocle/surface.places",Rows.laid_monocle_surface_places),("monocle/sequence.kinds",Rows.laid_monocle_sequence_kinds),("monocle/sequence.order",Rows.laid_monocle_sequence_order)]
def Gn:(xA.filter fun x=>!["unicode/utf8.first"].contains x.1)=QD:=by kernel_rfl
def O4(os:Os):(World.doorLaid prog 4000 os).layFits prog JW Qu=true:=by kernel_rfl
def Je(os:Os):(World.doorLaid prog 4000 os).layIfaces prog JW (Jd os)=true:=by kernel_rfl
def Sf(os:Os):LaidIn prog (Jd os) QD Qu:=LaidIn.of_run Qu 8 (by kernel_rfl) (by kernel_rfl) (by kernel_rfl) (by kernel_rfl)
def Mx(os:Os):laidMet prog xA (Jd os):=
 laidMet_layVars (w0:=World.doorLaid prog 4000 os) ["unicode/utf8.first"] Qu (by rw[vL];rfl) (by rw[vL];exact O4 os) (by rw[vL];exact Je os) (by rw[Gn];exact Sf os)
def O5(os:Os)(args:Array Value):laidMetH prog pS ((Jd os).forCall (fun _ _=>0) ⟨#[],args,[]⟩).memory:=
 laidMetH_of_parts3 (fuel:=8) (by rw[CP];exact(Mx os).of_heap (by simp[World.memory,World.forCall,Input.heap])) (by kernel_rfl) (by kernel_rfl)
def Jf(os:Os)(args:Array Value):((Jd os).forCall (fun _ _=>0) ⟨#[],args,[]⟩).Shaped prog:=
 World.shaped_of_RefB (by kernel_rfl) (by kernel_rfl)
