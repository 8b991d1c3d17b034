import Derived.Test.YtgohdcccfkjooaaGreatDoorQAN
import Derived.Deep.Light
namespace Go.Proofs.YtgohdcccfkjooaaGreatDoor
set_option linter.all false
set_option maxRecDepth 100000
set_option maxHeartbeats 3200000
open Go.Proofs.Tryz Go.RowKit
def mT(s:gW):Bool:=(s.curvX==0)&& (s.conicX==0)
def qw(s:gW):Bool:=decide ([s.a0,s.a1,s.a2,s.a3]=[0,0,0,0])&&decide ([s.p0,s.p1]=[0,0])&& (s.order==0)
def kK(s:gW):Bool:=(s.dx==0)&& (s.dy==0)&& (s.ax==0)&& (s.ay==0)&& (s.az==0)
def xN(s:gW)(n:Nat):Bool:=s.glass.toList.isEmpty&&decide (n=0)
def rM(s:gW)(n:Nat):Bool:=
 if s.kind=1 then(if s.order=0\/kT s.glass=true then mT s&&kK s&&decide (s.order=0)&&decide ([s.p0,s.p1]=[0,0])else mT s&&kK s)
 else if s.kind=2 then qw s&&kK s
 else if s.kind=3 then mT s&&qw s&&xN s n&&decide (s.curv=0)&&decide (s.conic=0)&&decide (s.semi=0)&&decide (s.hole=0)
 else if s.kind=4 then mT s&&qw s&&kK s&&xN s n&&decide (s.conic=0)
 else false
def tJ(s:gW)(zs:List Int)(n:Nat):Bool:=nX s zs n&&rM s n
def Sn(s:gW)(w):(Op.equalIn 10000 64 (.agg #[s.a0,s.a1,s.a2,s.a3]) (.agg #[oZ,oZ,oZ,oZ])).run prog w=.ok (decide ([s.a0,s.a1,s.a2,s.a3]=[0,0,0,0])) w:=
 sk 9998 (n:=4) (k':=.i64) underlying64 (by kernel_rfl) underlying3 (by kernel_rfl) [s.a0,s.a1,s.a2,s.a3] [0,0,0,0] rfl rfl w
def Qx(s:gW)(w):(Op.equalIn 10000 65 (.agg #[s.p0,s.p1]) (.agg #[oZ,oZ])).run prog w=.ok (decide ([s.p0,s.p1]=[0,0])) w:=
 sk 9998 (n:=2) (k':=.i64) underlying65 (by kernel_rfl) underlying3 (by kernel_rfl) [s.p0,s.p1] [0,0] rfl rfl w
def J9(s zs a n c)(w:World)(y:IR w w 3 a n c zs)(u:n<=1000000)(t:s.glass.size<=9223372036854775807):
 Calls prog 78 #[.agg (⟨s,a,n,c⟩:jt)] w (iZ w (.bool (tJ s zs n))):=by
 have h1:=Y.new w s a n c;have m:=(TH w w).alloc (aa _) (.cells (⟨s,a,n,c⟩:jt) 70);have i:=O h1;have o:=O y;have f:=O m;clear h1 y m
 cases hs:nX s zs n with
 |false=>
  have j:=O hs;clear hs
  go_enter func78,ntmps78
  go_wp2_with(first
   |(refine gO i rfl (.tmp 1) rfl rfl ?_)
   |((with_reducible refine(zm s zs a n c _ (o.out.go f.out) u t).mono ?_);rintro e w2 ⟨l,g⟩;rw[j]at l;subst l))
  go_ret;exact⟨by unfold tJ;rw[j];rfl,I f g⟩
 |true=>
  have j:=O hs;clear hs
  go_enter func78,ntmps78
  go_upto_region 3 with(first
   |(refine gO i rfl (.tmp 1) rfl rfl ?_)
   |((with_reducible refine(zm s zs a n c _ (o.out.go f.out) u t).mono ?_);rintro e w2 ⟨l,g⟩;rw[j]at l;subst l))
  refine gI (fun d=>Y d w s a n c/\Below w w d) ⟨Y.go i g (by simp),I f g⟩ ?_;clear g i o f;rintro w3 ⟨h1,g⟩;have q:=O g;have i:=O h1;clear g h1;obtain⟨k0,k1,k2,k3,k4,k5,k6,k7,k8,k9,z,A,B,C,D,E,F,H,K,L,M,N⟩:=i.cells
  go_cut [3] (fun v d=>v=.bool (mT s)/\d=w3)
  case first=>
   cases q1:(s.curvX==0) <;>cases q2:(s.conicX==0)
   all_goals
    go_wp2;go_meet;exact⟨by unfold mT;rw[q1,q2];rfl,rfl⟩
  case rest=>
   obtain⟨rfl,rfl⟩:=hcut
   go_upto_region 4 with fail
   go_cut [4] (fun v d=>v=.bool (qw s)/\d=wc)
   case first=>
    have e4:=Sn s wc;have p:=Qx s wc;cases q1:decide ([s.a0,s.a1,s.a2,s.a3]=[0,0,0,0]) <;>cases q2:decide ([s.p0,s.p1]=[0,0]) <;>cases k:(s.order==0)
    all_goals
     rw[q1]at e4;rw[q2]at p;have P:=O q1;have Q:=O q2;clear q1 q2;go_wp2;go_meet;exact⟨by unfold qw;rw[P,Q,k];rfl,rfl⟩
   case rest=>
    obtain⟨rfl,rfl⟩:=hcut
    go_upto_region 5 with fail
    go_cut [5] (fun v d=>v=.bool (kK s)/\d=wc)
    case first=>
     cases q1:(s.dx==0) <;>cases q2:(s.dy==0) <;>cases k:(s.ax==0) <;>cases q4:(s.ay==0) <;>cases q5:(s.az==0)
     all_goals
      go_wp2;go_meet;exact⟨by unfold kK;rw[q1,q2,k,q4,q5];rfl,rfl⟩
    case rest=>
     obtain⟨rfl,rfl⟩:=hcut
     go_upto_region 6 with fail
     go_cut [6] (fun v d=>v=.bool (xN s n)/\d=wc)
     case first=>
      cases q1:s.glass.toList.isEmpty<;>cases q2:((n:Int)==0)
      all_goals
       have k:decide (n=0)=((n:Int)==0):=by rw[bJ];simp
       have R:=O k;clear k;go_wp2;go_meet;exact⟨by unfold xN;rw[q1,R,q2];rfl,rfl⟩
     case rest=>
      obtain⟨rfl,rfl⟩:=hcut;have p:=Qx s wc
      have hx:∀b,mT s=b->b=mT s:=fun b h=>h.symm
      generalize hx1:mT s=x1 at*;generalize hx2:qw s=x2 at*;generalize hx3:kK s=x3 at*;generalize hx4:xN s n=x4 at*;generalize hx5:decide ([s.p0,s.p1]=[0,0])=x5 at*;have S:=O hx1;have T:=O hx2;have W:=O hx3;have X:=O hx4;have X5:=O hx5
      have x:tJ s zs n=(if s.kind=1 then(if s.order=0\/kT s.glass=true then x1&&x3&&decide (s.order=0)&&x5 else x1&&x3)
       else if s.kind=2 then x2&&x3
       else if s.kind=3 then x1&&x2&&x4&&decide (s.curv=0)&&decide (s.conic=0)&&decide (s.semi=0)&&decide (s.hole=0)
       else if s.kind=4 then x1&&x2&&x3&&x4&&decide (s.conic=0)
       else false):=by
       unfold tJ rM;rw[j,hx1,hx2,hx3,hx4,hx5];rfl
      have r:=O x;clear hx1 hx2 hx3 hx4 hx5 hx x;go_wp2
      all_goals
       go_ret;refine⟨?_,q⟩;rw[r];clear r S T W X X5 q k0 k1 k2 k3 k4 k5 k6 k7 k8 k9 z A B C D E F H K L M N p j;go_light
       simp_all [kT]
       all_goals rw[bJ];simp
end Go.Proofs.YtgohdcccfkjooaaGreatDoor
