import Derived.Test.YtgohdcccfkjooaaGreatDoorSBE
import Derived.Test.YtgohdcccfkjooaaGreatDoorSBC
namespace Go.Proofs.YtgohdcccfkjooaaGreatDoor
set_option linter.all false
set_option maxRecDepth 100000
open Go.Proofs.Tryz Go.ChangeShapes Go.WideShapes Go.ChangeAt Go.RowKit
def VL:prog.funcNamed Rows.sequenceSkipsRow.func=some 7:=by kernel_rfl
def Vf:(f7).isInstance prog Rows.sequenceSkipsRow.origin Rows.sequenceSkipsRow.targs:=bZ (by kernel_rfl)
def Vh:(f7).isWrapper prog Rows.sequenceSkipsRow.wrapper Rows.sequenceSkipsRow.mainSum:=by
 unfold Func.isWrapper;first|(rw[aq (by decide+kernel)];kernel_rfl)|(rw[aj (by decide+kernel)];exact⟨rfl,rfl⟩)
def U7{v:Value}{cs:Array Value}{x:rz}{c:Int}{s f u k:iJ}(a:v=.agg cs)(h:v.cells.toList=qd x c s f u k):v=Fh x c s f u k:=by
 subst a;have:cs.toList=qd x c s f u k:=h
 show Value.agg cs=Value.agg (qd x c s f u k).toArray
 rw[<- this]
def VM:∀zs:List Int,zs.length=3->(∀z∈zs,IntKind.u8.has z)-> ∃p:Nat->Int,Value.agg (zs.map (Value.int .u8)).toArray=VQ p/\ ∀i,og (p i)
 |[z0,z1,z2],_,h=>by
  have a:∀z∈ [z0,z1,z2],og z:=fun z b=>by
   have:=h z b;simp[IntKind.has,IntKind.min,IntKind.max,IntKind.signed,IntKind.bits]at this;unfold og;omega
  exact⟨fun i=>match i with|0=>z0|1=>z1|2=>z2|_=>0,rfl,fun|0|1|2=>a _ (by simp)|_+3=>(⟨by omega,by omega⟩:og 0)⟩
def U1(os:Os)(b:os.Started)(H:Type)(enc:TypeId×Value->H):
 ReturnsInHanded {} checked os 7 .any (fun w args=>(Rows.sequenceSkipsSpec.pre enc prog f7 [] false w args/\laidMetH prog pS w)/\sizedMet enc prog f7 (OpenSpec.ofChange Rows.sequenceSkipsSpec) false w args)
  (Rows.sequenceSkipsSpec.post enc prog f7 false true false false):=by
 refine Bu (C:=checked) (X:=fun w _=>laidMetH prog pS w) (fun _ _ _ S h=>h.of_heap S) Jc b (by kernel_rfl) func7
  (ChangeSpec.witness_shaped (enc:=enc) (C:=checked) (os:=os) (X:=fun w _=>laidMetH prog pS w) false (Jd os)
    #[.agg #[oN,.int .u8 0,.int .u16 0,.int .u8 0,oN,oN,.int .u8 0,.int .i16 0,oN,.int .u8 0],.agg #[.int .u8 0,.int .u8 0,.int .u8 0,.int .u8 0,.int .u8 0,.int .u8 0,.int .u8 0,.int .u8 0],.agg #[.int .u8 0,.int .u8 0,.int .u8 0],.string ⟨#[]⟩] 8 (Se os) (Jf os _) (by kernel_rfl) (by kernel_rfl) (by kernel_rfl) (O5 os _)) ?_
 intro W base args ds gs g d q P u;have a:∀(j:Nat) t v,f7.params[j]? =some t->args[j]? =some v->Value.okWide prog W .any base t v:=d;have r:=q;obtain⟨pp,qq,o,Q,rfl,a5,a6⟩:=q;have i:DataW.TrodAll enc prog W 0 (fun _=>true) true f7.params.toList args.toList ds pp:=o;rw[params7]at i a;obtain⟨l,a7,d0,a1,p0,q0,m,rfl,rfl,h0,r0⟩:=trodAll_cons i;obtain⟨D,a8,d1,a2,p1,q1,rfl,rfl,rfl,h1,r1⟩:=trodAll_cons r0;obtain⟨v2,a9,d2,a3,p2,q2,rfl,rfl,rfl,h2,r2⟩:=trodAll_cons r1;obtain⟨E,b0,d3,a4,p3,q3,rfl,rfl,rfl,h3,r3⟩:=trodAll_cons r2;obtain⟨rfl,rfl,rfl⟩:=trodAll_nil r3
 obtain rfl:args=#[l,D,v2,E]:=by cases args;simp_all
 obtain⟨rfl,rfl⟩:=trodVars_none Q;obtain⟨a0,y,_⟩:=okWide_struct underlying30 (a 0 30 l rfl rfl)
 have N:Rd enc prog W 0 (fun _=>true) true 30 l.cells.toList:=by
  obtain⟨fuel,hf⟩:=h0;exact⟨fuel,_,hf⟩
 obtain⟨x,c,s,f,v,k,M,hx,R⟩:=SR N;obtain rfl:=U7 y M;obtain⟨zs,z,hz,wz⟩:=Gz (k:=.u8) underlying31 (by kernel_rfl) (by kernel_rfl) underlying5 (a 1 31 D rfl rfl);obtain⟨n,L,T⟩:=Qd zs hz wz;obtain rfl:=z.trans L;obtain⟨K,A,B,F⟩:=Gz (k:=.u8) underlying83 (by kernel_rfl) (by kernel_rfl) underlying5 (a 2 83 v2 rfl rfl);obtain⟨p,ep,hp⟩:=VM K B F;obtain rfl:=A.trans ep;obtain⟨s3,rfl⟩:=okWide_string underlying9 (a 3 9 E rfl rfl)
 refine(VG x c s f v k n p s3.data.toList W hx R T hp (SX u P)).mono fun e W' ⟨he,bel⟩=>?_
 subst he;exact⟨_,rfl,_,_,_,[],_,[],r,trodAll_mk1 (shut_bool underlying4 _),uT bel _ _ _ _ (QF (by kernel_rfl)) i,rfl,bel.frame _,fun h=>by cases h⟩
def Vg:Rows.SequenceSkipsSaid:=
 OpenClaim.holds_of_wide 7 f7 rfl rfl rfl rfl rfl rfl rfl ⟨rfl,rfl,rfl,rfl,rfl⟩ rfl rfl rfl rfl rfl VL func7 U0 Vf Vh
  (fun os a H enc _=>U1 os a H enc)
