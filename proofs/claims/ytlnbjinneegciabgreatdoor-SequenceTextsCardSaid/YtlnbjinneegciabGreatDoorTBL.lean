import Derived.Test.YtlnbjinneegciabGreatDoorTBB
import Derived.Test.YtlnbjinneegciabGreatDoorTBK
import Derived.Test.YtlnbjinneegciabGreatDoorTBH
namespace Go.Proofs.YtlnbjinneegciabGreatDoor
set_option linter.all false
set_option maxRecDepth 100000
open Go.Proofs.Tryz Go.ChangeShapes Go.WideShapes Go.ChangeAt Go.RowKit
def Za{v:Value}{cs:Array Value}{x:rz}{c:Int}{s f u k:iJ}(a:v=.agg cs)(h:v.cells.toList=qd x c s f u k):v=Fh x c s f u k:=by
 subst a;have:cs.toList=qd x c s f u k:=h
 show Value.agg cs=Value.agg (qd x c s f u k).toArray
 rw[<- this]
def Y9(os:Os)(b:os.Started)(H:Type)(enc:TypeId×Value->H):
 ReturnsInHanded {} Tryz.checked os 3 .any (fun w args=>(Rows.sequenceTextsSpec.pre enc prog Tryz.f3 [] false w args/\laidMetH prog pS w)/\sizedMet enc prog Tryz.f3 (OpenSpec.ofChange Rows.sequenceTextsSpec) false w args)
  (Rows.sequenceTextsSpec.post enc prog Tryz.f3 false true false false):=by
 refine Bu (C:=Tryz.checked) (X:=fun w _=>laidMetH prog pS w) (fun _ _ _ M h=>h.of_heap M) Jc b (by kernel_rfl) func3
  (ChangeSpec.witness_shaped (enc:=enc) (C:=Tryz.checked) (os:=os) (X:=fun w _=>laidMetH prog pS w) false (Jd os)
    #[.agg #[oN,.int .u8 0,.int .u16 0,.int .u8 0,oN,oN,.int .u8 0,.int .i16 0,oN,.int .u8 0],.agg #[.int .u8 0,.int .u8 0,.int .u8 0,.int .u8 0,.int .u8 0,.int .u8 0,.int .u8 0,.int .u8 0],.int .u8 0] 8 (Se os) (Jf os _) (by kernel_rfl) (by kernel_rfl) (by kernel_rfl) (O5 os _)) ?_
 intro W base args ds gs g d q F u;have a:∀(j:Nat) t v,Tryz.f3.params[j]? =some t->args[j]? =some v->Value.okWide prog W .any base t v:=d;have r:=q;obtain⟨T,qq,o,K,rfl,a4,a5⟩:=q;have i:DataW.TrodAll enc prog W 0 (fun _=>true) true Tryz.f3.params.toList args.toList ds T:=o;rw[Tryz.params3]at i a;obtain⟨l,a6,d0,a1,p0,q0,m,rfl,rfl,h0,r0⟩:=trodAll_cons i;obtain⟨A,a7,d1,a2,p1,q1,rfl,rfl,rfl,h1,r1⟩:=trodAll_cons r0;obtain⟨v2,a8,d2,a3,p2,q2,rfl,rfl,rfl,h2,r2⟩:=trodAll_cons r1;obtain⟨rfl,rfl,rfl⟩:=trodAll_nil r2
 obtain rfl:args=#[l,A,v2]:=by cases args;simp_all
 obtain⟨rfl,rfl⟩:=trodVars_none K;obtain⟨a0,y,_⟩:=okWide_struct underlying30 (a 0 30 l rfl rfl)
 have E:Rd enc prog W 0 (fun _=>true) true 30 l.cells.toList:=by
  obtain⟨fuel,hf⟩:=h0;exact⟨fuel,_,hf⟩
 obtain⟨x,c,s,f,v,k,D,Q,L⟩:=SR E;obtain rfl:=Za y D;obtain⟨zs,z,R,wz⟩:=Gz (k:=.u8) underlying31 (by kernel_rfl) (by kernel_rfl) underlying5 (a 1 31 A rfl rfl);obtain⟨n,B,N⟩:=Qd zs R wz;obtain rfl:=z.trans B;obtain⟨p,rfl⟩:=okWide_int underlying5 (a 2 5 v2 rfl rfl)
 have g2:Rd enc prog W 0 (fun _=>true) true 5 [Value.int .u8 p]:=by
  obtain⟨fuel,hf⟩:=h2;exact⟨fuel,_,hf⟩
 obtain⟨S,ep,P⟩:=vf underlying5 g2
 obtain rfl:p=S:=by simpa using ep
 refine(Zz x c s f v k n p W Q L N P (SX u F)).mono fun e W' ⟨he,bel⟩=>?_
 subst he;exact⟨_,rfl,_,_,_,[],_,[],r,trodAll_mk1 (shut_bool underlying4 _),uT bel _ _ _ _ (QF (by kernel_rfl)) i,rfl,bel.frame _,fun h=>by cases h⟩
def Zu:Rows.SequenceTextsSaid:=
 OpenClaim.holds_of_wide 3 Tryz.f3 rfl rfl rfl rfl rfl rfl rfl ⟨rfl,rfl,rfl,rfl,rfl⟩ rfl rfl rfl rfl rfl ZO func3 Y8 Zt Zv
  (fun os a H enc _=>Y9 os a H enc)
