import Derived.Test.YtlnbjinneegciabGreatDoorTAB
namespace Go.Proofs.YtlnbjinneegciabGreatDoor
set_option linter.all false
set_option maxRecDepth 100000
set_option maxHeartbeats 12800000
open Go.Proofs.Tryz Go.RowKit
def Ye(s u:gW)(w:World):(Op.equalIn 10000 54 (.agg #[s.a0,s.a1,s.a2,s.a3]) (.agg #[u.a0,u.a1,u.a2,u.a3])).run prog w=.ok (decide (s.a0=u.a0/\s.a1=u.a1/\s.a2=u.a2/\s.a3=u.a3)) w:=by
 have h:=sk 9998 (n:=4) (k':=.i64) underlying54 (by kernel_rfl) underlying3 (by kernel_rfl) [s.a0,s.a1,s.a2,s.a3] [u.a0,u.a1,u.a2,u.a3] rfl rfl w;simpa using h
def Yd(s u:gW)(w:World):(Op.equalIn 10000 55 (.agg #[s.p0,s.p1]) (.agg #[u.p0,u.p1])).run prog w=.ok (decide (s.p0=u.p0/\s.p1=u.p1)) w:=by
 have h:=sk 9998 (n:=2) (k':=.i64) underlying55 (by kernel_rfl) underlying3 (by kernel_rfl) [s.p0,s.p1] [u.p0,u.p1] rfl rfl w;simpa using h
def WI{s t:ByteArray}(h:s.toList=t.toList):s=t:=by
 rw[ByteArray.toList_eq,ByteArray.toList_eq]at h;cases s;cases t;simpa using h
def Ww:∀{xs ys:List Int},xs.length=ys.length->(∀i,i<xs.length->xs.getD i 0=ys.getD i 0)->xs=ys
 |[],[],_,_=>rfl
 |x::xs,y::ys,h,g=>by
  have h0:x=y:=by simpa using g 0 (by simp)
  have h1:xs=ys:=Ww (by simpa using h) (fun i hi=>by simpa using g (i+1) (by simpa using hi));rw[h0,h1]
def Xf(s u:gW)(xs ys:List Int)(a b:Option Addr)(n c m d:Nat)(w:World)(R:IR w w 3 a n c xs)(S:IR w w 3 b m d ys)(hn:n<=1000000)(hm:m<=1000000):
 Calls prog 84 #[.agg (⟨s,a,n,c⟩:jt),.agg (⟨u,b,m,d⟩:jt)] w (iZ w (.bool (decide (s=u/\xs=ys)))):=by
 generalize hD:decide (s=u/\xs=ys)=D
 have hF:¬(s=u/\xs=ys)->D=false:=fun h=>by rw[<- hD];exact aw h
 have hT:s=u/\xs=ys->D=true:=fun h=>by rw[<- hD];exact aP h
 have Q:=O (R.1);have Ly:=O (S.1);have j:=O hF;have HT:=O hT;obtain⟨e1,y⟩:=iN w (.cells (⟨s,a,n,c⟩:jt) 58) (.cells (⟨u,b,m,d⟩:jt) 58);have g:=O (iH (w:=w) (.cells (⟨s,a,n,c⟩:jt) 58) (.cells (⟨u,b,m,d⟩:jt) 58));have Hx:=O R;have Hy:=O S;have X:=O e1;have E2:=O y;clear R S e1 y hD hF hT;go_enter func84,ntmps84;go_upto_region 1 with fail;refine gI (fun W=>Y W w s a n c/\Y W (w+1) u b m d/\Below w w W) ⟨X,E2,g⟩ ?_;clear X E2 g;rintro w1 ⟨h1,h2,hb⟩;have M:=h1.lt;have N:=h2.lt;have c1:=h1.cells.2.2.2.2.2.2.2.2.2.2.2.2.2.2.2.2.2.2.2.2.2;have c2:=h2.cells.2.2.2.2.2.2.2.2.2.2.2.2.2.2.2.2.2.2.2.2.2;have p:=O h1;have q:=O h2;have g:=O hb;clear h1 h2 hb;by_cases P:n=m
 .subst P
  go_wp2
  go_loopw [5] (fun T wr=>∃k:Nat,k<=n/\T=.int .i64 (k:Int)/\(∀i,i<k*3->xs.getD i 0=ys.getD i 0)/\Y wr w s a n c/\Y wr (w+1) u b n d/\Below w w wr) (fun T _=>n-(intOf T).toNat)
  case atStart=>exact⟨0,aA _,rfl,fun i hi=>by omega,p,q,g⟩
  case round=>
   clear c1 c2 p q g M N;obtain⟨k,hk,rfl,hp,h1,h2,hb⟩:=hrel;have Hp:=O hp;clear hp;have M:=h1.lt;have N:=h2.lt;have c1:=h1.cells.2.2.2.2.2.2.2.2.2.2.2.2.2.2.2.2.2.2.2.2.2;have c2:=h2.cells.2.2.2.2.2.2.2.2.2.2.2.2.2.2.2.2.2.2.2.2.2;have p:=O h1;have q:=O h2;have g:=O hb;clear h1 h2 hb;by_cases L:k<n
   .obtain⟨b1,o1,rfl,l1,x0,x1,x2⟩:=(Hx.go g).at3 L
    obtain⟨b2,o2,rfl,l2,y0,y1,y2⟩:=(Hy.go g).at3 L;generalize hp0:xs.getD (k*3) 0=p0 at*;generalize hp1:xs.getD (k*3+1) 0=p1 at*;generalize hp2:xs.getD (k*3+2) 0=p2 at*;generalize hq0:ys.getD (k*3) 0=r0 at*;generalize hq1:ys.getD (k*3+1) 0=r1 at*;generalize hq2:ys.getD (k*3+2) 0=r2 at*;have z:=O (show(xs.getD (k*3) 0=p0/\xs.getD (k*3+1) 0=p1/\xs.getD (k*3+2) 0=p2)/\(ys.getD (k*3) 0=r0/\ys.getD (k*3+1) 0=r1/\ys.getD (k*3+2) 0=r2)from⟨⟨hp0,hp1,hp2⟩,hq0,hq1,hq2⟩);clear hp0 hp1 hp2 hq0 hq1 hq2;by_cases x:p0=r0/\p1=r1/\p2=r2
    .obtain⟨rfl,rfl,rfl⟩:=x
     go_wp2_with fail
     go_quiet (fail)
     go_wp2
     go_roundw
     case rel=>
      refine⟨k+1,by omega,by go_num,fun i hi=>?_,Y.of_dr p,Y.of_dr q,gV g _⟩;obtain⟨⟨l,o,g2⟩,r,t,v⟩:=z;by_cases a4:i<k*3
      .exact Hp i a4
      .obtain rfl|rfl|rfl:i=k*3\/i=k*3+1\/i=k*3+2:=by omega
       .rw[l,r]
       .rw[o,t]
       .rw[g2,v]
     case measure=>simp[intOf];omega
    .have e:=O (j (fun h=>x (by obtain⟨⟨l,o,g2⟩,r,t,v⟩:=z;rw[h.2]at l o g2;exact⟨l.symm.trans r,o.symm.trans t,g2.symm.trans v⟩)))
     by_cases h0:p0=r0
     .by_cases h1:p1=r1
      .have h2:¬p2=r2:=fun h=>x ⟨h0,h1,h⟩
       subst h0 h1;clear x;go_wp2_with fail
       go_quiet (fail)
       go_wp2;go_ret;exact⟨by rw[e];rfl,gV g _⟩
      .subst h0
       clear x;go_wp2_with fail
       go_quiet (fail)
       go_wp2;go_ret;exact⟨by rw[e];rfl,gV g _⟩
     .clear x
      go_wp2_with fail
      go_quiet (fail)
      go_wp2;go_ret;exact⟨by rw[e];rfl,gV g _⟩
   .obtain rfl:k=n:=by omega
    have a5:=O (Ww (Q.trans Ly.symm) (fun i hi=>Hp i (by rw[<- Q];exact hi)));go_upto_region 8 with fail;clear c1 c2 Hx Hy;obtain⟨k0,k1,k2,k3,k4,k5,k6,k7,k8,k9,c3,c4,c5,c6,c7,c8,c9,d0,d1,d2,d3,d4⟩:=p.cells;obtain⟨j0,j1,j2,j3,j4,j5,j6,j7,j8,j9,a7,a8,a9,b0,b3,b4,b5,b6,b7,b8,b9,c0⟩:=q.cells;have e4:=Ye s u wr;have y:=Yd s u wr;clear p q;by_cases f:s.kind=u.kind
    case neg=>
     have e:=O (j (fun h=>f (by rw[h.1])));go_wp2
     all_goals(go_ret;exact⟨by rw[e];first|rfl|(show Ending.returned (.bool (decide _))=_;rw[aw f]),g⟩)
    have f0:=f;clear f;by_cases f:s.r9=u.r9
    case neg=>
     have e:=O (j (fun h=>f (by rw[h.1])));go_wp2
     all_goals(go_ret;exact⟨by rw[e];first|rfl|(show Ending.returned (.bool (decide _))=_;rw[aw f]),g⟩)
    have f1:=f;clear f;by_cases f:s.i4=u.i4
    case neg=>
     have e:=O (j (fun h=>f (by rw[h.1])));go_wp2
     all_goals(go_ret;exact⟨by rw[e];first|rfl|(show Ending.returned (.bool (decide _))=_;rw[aw f]),g⟩)
    have f2:=f;clear f;by_cases f:s.i5=u.i5
    case neg=>
     have e:=O (j (fun h=>f (by rw[h.1])));go_wp2
     all_goals(go_ret;exact⟨by rw[e];first|rfl|(show Ending.returned (.bool (decide _))=_;rw[aw f]),g⟩)
    have f3:=f;clear f;by_cases f:s.cm=u.cm
    case neg=>
     have e:=O (j (fun h=>f (by rw[h.1])));go_wp2
     all_goals(go_ret;exact⟨by rw[e];first|rfl|(show Ending.returned (.bool (decide _))=_;rw[aw f]),g⟩)
    have f4:=f;clear f;by_cases f:s.a0=u.a0/\s.a1=u.a1/\s.a2=u.a2/\s.a3=u.a3
    case neg=>
     have e:=O (j (fun h=>f ⟨by rw[h.1],by rw[h.1],by rw[h.1],by rw[h.1]⟩));rw[aw f]at e4;go_wp2
     all_goals(go_ret;exact⟨by rw[e];first|rfl|(show Ending.returned (.bool (decide _))=_;rw[aw f]),g⟩)
    rw[aP f]at e4;have f5:=O f;clear f;by_cases f:s.p0=u.p0/\s.p1=u.p1
    case neg=>
     have e:=O (j (fun h=>f ⟨by rw[h.1],by rw[h.1]⟩));rw[aw f]at y;go_wp2
     all_goals(go_ret;exact⟨by rw[e];first|rfl|(show Ending.returned (.bool (decide _))=_;rw[aw f]),g⟩)
    rw[aP f]at y;have f6:=O f;clear f;by_cases f:s.order=u.order
    case neg=>
     have e:=O (j (fun h=>f (by rw[h.1])));go_wp2
     all_goals(go_ret;exact⟨by rw[e];first|rfl|(show Ending.returned (.bool (decide _))=_;rw[aw f]),g⟩)
    have f7:=f;clear f;by_cases f:s.tg=u.tg
    case neg=>
     have e:=O (j (fun h=>f (by rw[h.1])));go_wp2
     all_goals(go_ret;exact⟨by rw[e];first|rfl|(show Ending.returned (.bool (decide _))=_;rw[aw f]),g⟩)
    have f8:=f;clear f;by_cases f:s.gA=u.gA
    case neg=>
     have e:=O (j (fun h=>f (by rw[h.1])))
     have a6:¬s.gA.toList=u.gA.toList:=fun h=>f (WI h)
     go_wp2
     all_goals(go_ret;exact⟨by rw[e];first|rfl|(show Ending.returned (.bool (decide _))=_;rw[aw f]),g⟩)
    have f9:=f;clear f;by_cases f:s.i6=u.i6
    case neg=>
     have e:=O (j (fun h=>f (by rw[h.1])));go_wp2
     all_goals(go_ret;exact⟨by rw[e];first|rfl|(show Ending.returned (.bool (decide _))=_;rw[aw f]),g⟩)
    have A:=f;clear f;by_cases f:s.i7=u.i7
    case neg=>
     have e:=O (j (fun h=>f (by rw[h.1])));go_wp2
     all_goals(go_ret;exact⟨by rw[e];first|rfl|(show Ending.returned (.bool (decide _))=_;rw[aw f]),g⟩)
    have B:=f;clear f;by_cases f:s.dx=u.dx
    case neg=>
     have e:=O (j (fun h=>f (by rw[h.1])));go_wp2
     all_goals(go_ret;exact⟨by rw[e];first|rfl|(show Ending.returned (.bool (decide _))=_;rw[aw f]),g⟩)
    have C:=f;clear f;by_cases f:s.dy=u.dy
    case neg=>
     have e:=O (j (fun h=>f (by rw[h.1])));go_wp2
     all_goals(go_ret;exact⟨by rw[e];first|rfl|(show Ending.returned (.bool (decide _))=_;rw[aw f]),g⟩)
    have E:=f;clear f;by_cases f:s.ax=u.ax
    case neg=>
     have e:=O (j (fun h=>f (by rw[h.1])));go_wp2
     all_goals(go_ret;exact⟨by rw[e];first|rfl|(show Ending.returned (.bool (decide _))=_;rw[aw f]),g⟩)
    have F:=f;clear f;by_cases f:s.ay=u.ay
    case neg=>
     have e:=O (j (fun h=>f (by rw[h.1])));go_wp2
     all_goals(go_ret;exact⟨by rw[e];first|rfl|(show Ending.returned (.bool (decide _))=_;rw[aw f]),g⟩)
    have H:=f;clear f;by_cases f:s.az=u.az
    case neg=>
     have e:=O (j (fun h=>f (by rw[h.1])));go_wp2
     all_goals(go_ret;exact⟨by rw[e];first|rfl|(show Ending.returned (.bool (decide _))=_;rw[aw f]),g⟩)
    have K:=f;clear f;have e:=O (HT ⟨by cases s;cases u;simp only at f0 f1 f2 f3 f4 f7 f8 f9 A B C E F H K;obtain⟨l,o,g2,r⟩:=f5;obtain⟨t,v⟩:=f6;simp only at l o g2 r t v;subst f0 f1 f2 f3 f4 f7 f8 f9 A B C E F H K l o g2 r t v;rfl,a5⟩);go_wp2;go_ret;exact⟨by rw[e];rfl,g⟩
 .have e:=O (j (fun h=>P (by have:=Q.out;have:=Ly.out;rw[h.2]at*;omega)))
  go_wp2;go_ret;exact⟨by rw[e];rfl,g⟩
