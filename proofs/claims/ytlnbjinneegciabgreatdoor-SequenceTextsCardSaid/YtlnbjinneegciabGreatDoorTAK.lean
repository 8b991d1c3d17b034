import Derived.Test.YtlnbjinneegciabGreatDoorTAH
namespace Go.Proofs.YtlnbjinneegciabGreatDoor
set_option linter.all false
set_option maxRecDepth 100000
set_option maxHeartbeats 1600000
open Go.Proofs.Tryz Go.RowKit
def zy(x:gM)(a:Option Addr)(n c:Nat)(w:World)(o:IR w w 3 a n c x.zs)(r:n<=1000000)(p:x.s.gA.size<=9223372036854775807):
 Calls prog 87 #[.agg (⟨x.s,a,n,c⟩:jt)] w (iZ w (.bool (tr x&&pM x.s n))):=by
 have g:n=x.zs.length/3:=by rw[o.1];omega
 have l:tr x=oA x.s x.zs n:=by unfold tr;rw[<- g]
 have d:=O (Y.new w x.s a n c);have b:=O ((TH w w).alloc (ag _) (.cells (⟨x.s,a,n,c⟩:jt) 58));have m:=O o;have i:=O l;clear o g l;go_enter func87,ntmps87;go_upto_region 1 with fail;refine gI (fun z=>Y z w x.s a n c/\Below w w z) ⟨d,b⟩ ?_;clear d b;rintro B ⟨h1,k⟩;have q:=h1.lt;have d:=O h1;have b:=O k;clear h1 k;cases ho:oA x.s x.zs n
 case false=>
  have h:=O ho;clear ho
  go_wp2_with(first
   |(refine gO d rfl (.tmp 1) rfl rfl ?_)
   |((with_reducible refine(lN x.s x.zs a n c _ (m.out.go b.out) r p).mono ?_);rintro e A ⟨j,hb⟩;rw[h]at j;subst j;have f:=O hb;clear hb))
  go_ret;exact⟨by rw[i,h];rfl,I b f⟩
 case true=>
  have h:=O ho;clear ho;cases q1:(x.s.kind==1) <;>cases q2:x.s.gA.toList.isEmpty<;>cases q3:(x.s.tg==0) <;>cases q4:(x.s.order==0) <;>cases q5:((n:Int)==0)
  all_goals
   go_wp2_with(first
    |(refine gO d rfl (.tmp 1) rfl rfl ?_)
    |((with_reducible refine(lN x.s x.zs a n c _ (m.out.go b.out) r p).mono ?_);rintro e A ⟨j,hb⟩;rw[h]at j;subst j;obtain⟨k0,_,_,_,_,_,_,_,_,_,_,t,u,v,_,_,_,_,_,_,_,y⟩:=(d.go hb q).cells;have f:=O hb;clear hb))
   go_ret;refine⟨?_,I b f⟩;rw[i,h];clear b f k0 t u v y m d i h;simp[pM,q2]at*
   try omega
