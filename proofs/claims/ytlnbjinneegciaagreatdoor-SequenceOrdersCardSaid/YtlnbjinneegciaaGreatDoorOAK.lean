import Derived.Test.YtlnbjinneegciaaGreatDoorOAH
namespace Go.Proofs.YtlnbjinneegciaaGreatDoor
set_option linter.all false
set_option maxRecDepth 100000
set_option maxHeartbeats 1600000
open Go.Proofs.Tryz Go.RowKit
def zy(x:gM)(a:Option Addr)(n c:Nat)(w:World)(p:IR w w 3 a n c x.zs)(t:n<=1000000)(q:x.s.e9.size<=9223372036854775807):
 Calls prog 107 #[.agg (⟨x.s,a,n,c⟩:jt)] w (iZ w (.bool (tr x&&pM x.s n))):=by
 have g:n=x.zs.length/3:=by rw[p.1];omega
 have m:tr x=oA x.s x.zs n:=by unfold tr;rw[<- g]
 have d:=O (Y.new w x.s a n c);have b:=O ((TH w w).alloc (aa _) (.cells (⟨x.s,a,n,c⟩:jt) 64));have o:=O p;have j:=O m;clear p g m;go_enter func107,ntmps107;go_upto_region 1 with fail;refine gI (fun A=>Y A w x.s a n c/\Below w w A) ⟨d,b⟩ ?_;clear d b;rintro C ⟨h1,l⟩;have r:=h1.lt;have d:=O h1;have b:=O l;clear h1 l;cases ho:oA x.s x.zs n
 case false=>
  have h:=O ho;clear ho
  go_wp2_with(first
   |(refine gO d rfl (.tmp 1) rfl rfl ?_)
   |((with_reducible refine(lN x.s x.zs a n c _ (o.out.go b.out) t q).mono ?_);rintro e B ⟨k,i⟩;rw[h]at k;subst k;have f:=O i;clear i))
  go_ret;exact⟨by rw[j,h];rfl,I b f⟩
 case true=>
  have h:=O ho;clear ho;cases q1:(x.s.kind==1) <;>cases q2:x.s.e9.toList.isEmpty<;>cases q3:(x.s.tx==0) <;>cases q4:(x.s.order==0) <;>cases q5:((n:Int)==0)
  all_goals
   go_wp2_with(first
    |(refine gO d rfl (.tmp 1) rfl rfl ?_)
    |((with_reducible refine(lN x.s x.zs a n c _ (o.out.go b.out) t q).mono ?_);rintro e B ⟨k,i⟩;rw[h]at k;subst k;obtain⟨k0,_,_,_,_,_,_,_,_,_,_,u,v,y,_,_,_,_,_,_,_,z⟩:=(d.go i r).cells;have f:=O i;clear i))
   go_ret;refine⟨?_,I b f⟩;rw[j,h];clear b f k0 u v y z o d j h;simp[pM,q2]at*
   try omega
