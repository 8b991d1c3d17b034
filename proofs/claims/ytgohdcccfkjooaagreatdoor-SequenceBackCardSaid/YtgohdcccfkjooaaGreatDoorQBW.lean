import Derived.Test.YtgohdcccfkjooaaGreatDoorQBV
import Derived.Test.YtgohdcccfkjooaaGreatDoorQBT
namespace Go.Proofs.YtgohdcccfkjooaaGreatDoor
set_option linter.all false
set_option maxRecDepth 100000
open Go.Proofs.Tryz Go.ChangeShapes Go.WideShapes Go.ChangeAt Go.RowKit
def D6{v:Value}{cs:Array Value}{x:rz}{c:Int}{s f u k:iJ}(a:v=.agg cs)(h:v.cells.toList=qd x c s f u k):v=Fh x c s f u k:=by
 subst a;have:cs.toList=qd x c s f u k:=h
 show Value.agg cs=Value.agg (qd x c s f u k).toArray
 rw[<- this]
def D7(os:Os)(a:os.Started)(H:Type)(enc:TypeId×Value->H):
 ReturnsInHanded {} Tryz.checked os 5 .any (fun w args=>(Rows.sequenceBackSpec.pre enc prog Tryz.f5 [] false w args/\laidMetH prog pS w)/\sizedMet enc prog Tryz.f5 (OpenSpec.ofChange Rows.sequenceBackSpec) false w args)
  (Rows.sequenceBackSpec.post enc prog Tryz.f5 false true false false):=by
 refine Bu (C:=Tryz.checked) (X:=fun w _=>laidMetH prog pS w) (fun _ _ _ N h=>h.of_heap N) Jc a (by kernel_rfl) func5
  (ChangeSpec.witness_shaped (enc:=enc) (C:=Tryz.checked) (os:=os) (X:=fun w _=>laidMetH prog pS w) false (Jd os)
    #[.agg #[oN,.int .u8 0,.int .u16 0,.int .u8 0,oN,oN,.int .u8 0,.int .i16 0,oN,.int .u8 0],.agg #[.int .u8 0,.int .u8 0,.int .u8 0,.int .u8 0,.int .u8 0,.int .u8 0,.int .u8 0,.int .u8 0]] 8 (Se os) (Jf os _) (by kernel_rfl) (by kernel_rfl) (by kernel_rfl) (O5 os _)) ?_
 intro W base args ds gs g d r K y;have b:∀(j:Nat) t v,Tryz.f5.params[j]? =some t->args[j]? =some v->Value.okWide prog W .any base t v:=d;have u:=r;obtain⟨p,q,o,L,rfl,a3,a4⟩:=r;have i:DataW.TrodAll enc prog W 0 (fun _=>true) true Tryz.f5.params.toList args.toList ds p:=o;rw[Tryz.params5]at i b;obtain⟨l,a5,d0,a1,p0,q0,m,rfl,rfl,h0,S⟩:=trodAll_cons i;obtain⟨B,a6,d1,a2,p1,q1,rfl,rfl,rfl,h1,T⟩:=trodAll_cons S;obtain⟨rfl,rfl,rfl⟩:=trodAll_nil T
 obtain rfl:args=#[l,B]:=by cases args;simp_all
 obtain⟨rfl,rfl⟩:=trodVars_none L;obtain⟨a0,z,_⟩:=okWide_struct underlying30 (b 0 30 l rfl rfl)
 have F:Rd enc prog W 0 (fun _=>true) true 30 l.cells.toList:=by
  obtain⟨fuel,hf⟩:=h0;exact⟨fuel,_,hf⟩
 obtain⟨x,c,s,f,v,k,E,Q,M⟩:=SR F;obtain rfl:=D6 z E;obtain⟨zs,A,R,wz⟩:=Gz (k:=.u8) underlying31 (by kernel_rfl) (by kernel_rfl) underlying5 (b 1 31 B rfl rfl);obtain⟨n,D,P⟩:=Qd zs R wz;obtain rfl:=A.trans D
 refine(OT x c s f v k n W Q M P (SX y K)).mono fun e W' ⟨he,bel⟩=>?_
 subst he;exact⟨_,rfl,_,_,_,[],_,[],u,trodAll_mk1 (shut_bool underlying4 _),uT bel _ _ _ _ (QF (by kernel_rfl)) i,rfl,bel.frame _,fun h=>by cases h⟩
def Ji:Rows.SequenceBackSaid:=
 OpenClaim.holds_of_wide 5 Tryz.f5 rfl rfl rfl rfl rfl rfl rfl ⟨rfl,rfl,rfl,rfl,rfl⟩ rfl rfl rfl rfl rfl Pa func5 D5 Jg Jh
  (fun os a H enc _=>D7 os a H enc)
end Go.Proofs.YtgohdcccfkjooaaGreatDoor
