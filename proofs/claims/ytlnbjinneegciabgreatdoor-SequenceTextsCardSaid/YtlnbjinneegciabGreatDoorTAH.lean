import Derived.Test.YtlnbjinneegciabGreatDoorTAE
import Derived.Test.YtlnbjinneegciabGreatDoorTAD
import Derived.Test.YtlnbjinneegciabGreatDoorTAF
import Derived.Deep.Light
import Derived.LaidMore
import Derived.Stop.Joined
namespace Go.Proofs.YtlnbjinneegciabGreatDoor
set_option linter.all false
set_option maxRecDepth 100000
set_option maxHeartbeats 12800000
open Go.Proofs.Tryz Go.RowKit Go.ChangeShapes Go.WideShapes Go.ChangeAt Go.WideElems Go.Maps
def mT(s:gW):Bool:=(s.i5==0)&& (s.cm==0)
def qw(s:gW):Bool:=decide ([s.a0,s.a1,s.a2,s.a3]=[0,0,0,0])&&decide ([s.p0,s.p1]=[0,0])&& (s.order==0)
def kK(s:gW):Bool:=(s.dx==0)&& (s.dy==0)&& (s.ax==0)&& (s.ay==0)&& (s.az==0)
def xN(s:gW)(n:Nat):Bool:=s.gA.toList.isEmpty&&decide (n=0)
def rM(s:gW)(n:Nat):Bool:=
 if s.kind=1 then(if s.order=0\/kT s.gA=true then mT s&&kK s&&decide (s.order=0)&&decide ([s.p0,s.p1]=[0,0])else mT s&&kK s)
 else if s.kind=2 then qw s&&kK s
 else if s.kind=3 then mT s&&qw s&&xN s n&&decide (s.r9=0)&&decide (s.i4=0)&&decide (s.i6=0)&&decide (s.i7=0)
 else if s.kind=4 then mT s&&qw s&&kK s&&xN s n&&decide (s.i4=0)
 else false
def tJ(s:gW)(zs:List Int)(n:Nat):Bool:=nX s zs n&&rM s n
def Sn(s:gW)(w:World):(Op.equalIn 10000 54 (.agg #[s.a0,s.a1,s.a2,s.a3]) (.agg #[oZ,oZ,oZ,oZ])).run prog w=.ok (decide ([s.a0,s.a1,s.a2,s.a3]=[0,0,0,0])) w:=
 sk 9998 (n:=4) (k':=.i64) underlying54 (by kernel_rfl) underlying3 (by kernel_rfl) [s.a0,s.a1,s.a2,s.a3] [0,0,0,0] rfl rfl w
def Qx(s:gW)(w:World):(Op.equalIn 10000 55 (.agg #[s.p0,s.p1]) (.agg #[oZ,oZ])).run prog w=.ok (decide ([s.p0,s.p1]=[0,0])) w:=
 sk 9998 (n:=2) (k':=.i64) underlying55 (by kernel_rfl) underlying3 (by kernel_rfl) [s.p0,s.p1] [0,0] rfl rfl w
def J9(s:gW)(zs:List Int)(a:Option Addr)(n c:Nat)(w:World)(u:IR w w 3 a n c zs)(r:n<=1000000)(q:s.gA.size<=9223372036854775807):
 Calls prog 36 #[.agg (⟨s,a,n,c⟩:jt)] w (iZ w (.bool (tJ s zs n))):=by
 have g:=O (Y.new w s a n c);have f:=O ((TH w w).alloc (ag _) (.cells (⟨s,a,n,c⟩:jt) 58));have l:=O u;clear u
 cases hs:nX s zs n with
 |false=>
  have i:=O hs;clear hs;go_enter func36,ntmps36
  go_wp2_with(first
   |(refine gO g rfl (.tmp 1) rfl rfl ?_)
   |((with_reducible refine(zm s zs a n c _ (l.out.go f.out) r q).mono ?_);rintro e w2 ⟨k,hb⟩;rw[i]at k;subst k))
  go_ret;exact⟨by unfold tJ;rw[i];rfl,I f hb⟩
 |true=>
  have i:=O hs;clear hs;go_enter func36,ntmps36
  go_upto_region 3 with(first
   |(refine gO g rfl (.tmp 1) rfl rfl ?_)
   |((with_reducible refine(zm s zs a n c _ (l.out.go f.out) r q).mono ?_);rintro e w2 ⟨k,hb⟩;rw[i]at k;subst k))
  refine gI (fun d=>Y d w s a n c/\Below w w d) ⟨Y.go g hb (by simp),I f hb⟩ ?_;clear hb g l f;rintro w3 ⟨h1,hb⟩;have o:=O hb;have g:=O h1;clear hb h1;obtain⟨k0,k1,k2,k3,k4,k5,k6,k7,k8,k9,x,y,z,A,B,C,D,E,F,H,K,L⟩:=g.cells
  go_cut [3] (fun v d=>v=.bool (mT s)/\d=w3)
  case first=>
   cases q1:(s.i5==0) <;>cases q2:(s.cm==0)
   all_goals
    go_wp2;go_meet;exact⟨by unfold mT;rw[q1,q2];rfl,rfl⟩
  case rest=>
   obtain⟨rfl,rfl⟩:=hcut;go_upto_region 4 with fail
   go_cut [4] (fun v d=>v=.bool (qw s)/\d=wc)
   case first=>
    have X:=Sn s wc;have m:=Qx s wc;cases q1:decide ([s.a0,s.a1,s.a2,s.a3]=[0,0,0,0]) <;>cases q2:decide ([s.p0,s.p1]=[0,0]) <;>cases j:(s.order==0)
    all_goals
     rw[q1]at X;rw[q2]at m;have M:=O q1;have N:=O q2;clear q1 q2;go_wp2;go_meet;exact⟨by unfold qw;rw[M,N,j];rfl,rfl⟩
   case rest=>
    obtain⟨rfl,rfl⟩:=hcut;go_upto_region 5 with fail
    go_cut [5] (fun v d=>v=.bool (kK s)/\d=wc)
    case first=>
     cases q1:(s.dx==0) <;>cases q2:(s.dy==0) <;>cases j:(s.ax==0) <;>cases q4:(s.ay==0) <;>cases q5:(s.az==0)
     all_goals
      go_wp2;go_meet;exact⟨by unfold kK;rw[q1,q2,j,q4,q5];rfl,rfl⟩
    case rest=>
     obtain⟨rfl,rfl⟩:=hcut;go_upto_region 6 with fail
     go_cut [6] (fun v d=>v=.bool (xN s n)/\d=wc)
     case first=>
      cases q1:s.gA.toList.isEmpty<;>cases q2:((n:Int)==0)
      all_goals
       have j:decide (n=0)=((n:Int)==0):=by rw[bJ];simp
       have P:=O j;clear j;go_wp2;go_meet;exact⟨by unfold xN;rw[q1,P,q2];rfl,rfl⟩
     case rest=>
      obtain⟨rfl,rfl⟩:=hcut;have m:=Qx s wc
      have hx:∀b,mT s=b->b=mT s:=fun b h=>h.symm
      generalize hx1:mT s=x1 at*;generalize hx2:qw s=x2 at*;generalize hx3:kK s=x3 at*;generalize hx4:xN s n=x4 at*;generalize hx5:decide ([s.p0,s.p1]=[0,0])=x5 at*;have Q:=O hx1;have R:=O hx2;have S:=O hx3;have T:=O hx4;have W:=O hx5
      have t:tJ s zs n=(if s.kind=1 then(if s.order=0\/kT s.gA=true then x1&&x3&&decide (s.order=0)&&x5 else x1&&x3)
       else if s.kind=2 then x2&&x3
       else if s.kind=3 then x1&&x2&&x4&&decide (s.r9=0)&&decide (s.i4=0)&&decide (s.i6=0)&&decide (s.i7=0)
       else if s.kind=4 then x1&&x2&&x3&&x4&&decide (s.i4=0)
       else false):=by
       unfold tJ rM;rw[i,hx1,hx2,hx3,hx4,hx5];rfl
      have p:=O t;clear hx1 hx2 hx3 hx4 hx5 hx t;go_wp2
      all_goals
       go_ret;refine⟨?_,o⟩;rw[p];clear p Q R S T W o k0 k1 k2 k3 k4 k5 k6 k7 k8 k9 x y z A B C D E F H K L m i;go_light
       simp_all [kT]
       all_goals rw[bJ];simp
def MP(s:gW)(zs:List Int)(n:Nat):(sm s&&sr s n)=(uU s&&uV s&&uW s&&xI s&&rI s&&decide (n<=8)):=by
 cases h6:rI s
 .unfold sr;rw[h6];simp
 .unfold sr;rw[h6]
  rw[bJ];unfold sm uU uV uW xI;simp only[jr,eN,List.any_nil,Bool.or_false,am,di,Bool.or_eq_false_iff,dQ,aD,dN,Bool.and_true];omega
def qz(g:ByteArray):g.toList.isEmpty=true↔g=ik:=by
 constructor
 .intro h
  have h1:g.toList=[]:=by simpa using h
  have:g.data.toList=[]:=by rw[ByteArray.toList_eq]at h1;exact h1
  cases g with
  |mk d=>
   have:d=#[]:=by apply fU;simpa using this
   subst this;rfl
 .intro h;subst h;rw[ByteArray.toList_eq];rfl
def Jo(s:gW)(zs:List Int)(n:Nat)(d:zs.length=n*3):rM s n=rK s zs:=by
 have c:zs=[]↔n=0:=by
  constructor
  .intro h;subst h;simp at d;omega
  .intro h;subst h;exact aX.1 (by rw[d])
 have a:=qz s.gA;obtain⟨kind,r9,i4,i5,cm,a0,a1,a2,a3,p0,p1,order,tg,gA,i6,i7,dx,dy,ax,ay,az⟩:=s;rw[bJ];unfold rK rM mT qw kK xN rJ;simp only at a⊢;by_cases h1:kind=1
 .subst h1
  cases hm:kT gA<;>by_cases e:order=0
  all_goals
   simp[jr,hm,e,gW.mk.injEq]
  all_goals try omega
 .by_cases h2:kind=2
  .subst h2
   simp[jr,gW.mk.injEq];omega
  .by_cases h3:kind=3
   .subst h3
    simp[jr,gW.mk.injEq,c]at a⊢;rw[a];constructor<;>intro h<;>simp_all
   .by_cases b:kind=4
    .subst b
     simp[jr,gW.mk.injEq,c]at a⊢;rw[a];constructor<;>intro h<;>simp_all
    .simp[h1,h2,h3,b,jr]
     omega
def Eu(s:gW)(zs:List Int)(n:Nat):uX s zs n=(rK s zs&& (uU s&& (uV s&& (uW s&& (xI s&& (rI s&& (decide (n<=8)&&true))))))):=rfl
def zq(s:gW)(zs:List Int)(n:Nat)(g:zs.length=n*3):tJ s zs n=oA s zs n:=by
 have h:=MP s zs n;unfold tJ nX oA;rw[Eu,Jo s zs n g];rw[bJ]at h⊢;simp only[am]at h⊢;constructor
 .rintro⟨⟨⟨a,f⟩,c⟩,t⟩
  obtain⟨⟨⟨⟨⟨h2,h3⟩,b⟩,h5⟩,d⟩,e⟩:=h.1 ⟨a,c⟩;exact⟨⟨t,h2,h3,b,h5,d,e,trivial⟩,f⟩
 .rintro⟨⟨t,h2,h3,b,h5,d,e,_⟩,f⟩
  obtain⟨a,c⟩:=h.2 ⟨⟨⟨⟨⟨h2,h3⟩,b⟩,h5⟩,d⟩,e⟩;exact⟨⟨⟨a,f⟩,c⟩,t⟩
def lN(s:gW)(zs:List Int)(a:Option Addr)(n c:Nat)(w:World)(b:IR w w 3 a n c zs)(e:n<=1000000)(d:s.gA.size<=9223372036854775807):
 Calls prog 36 #[.agg (⟨s,a,n,c⟩:jt)] w (iZ w (.bool (oA s zs n))):=by
 rw[<- zq s zs n b.1];exact J9 s zs a n c w b e d
def kM:Nat->ByteArray
 |0=>ik
 |1=>⟨#[66,75,55]⟩
 |2=>⟨#[83,70,45,49]⟩
 |3=>⟨#[77,73,82,82,79,82]⟩
 |_=>⟨#[102,95,50]⟩
def qE(k:Nat)(a:k<5):((kM k).toList.isEmpty||kI (kM k))=true:=by
 match k,a with
 |0,_=>rw[(qz (kM 0)).2 rfl];rfl
 |1,_=>rw[show kI (kM 1)=true by decide+kernel];simp
 |2,_=>rw[show kI (kM 2)=true by decide+kernel];simp
 |3,_=>rw[show kI (kM 3)=true by decide+kernel];simp
 |4,_=>rw[show kI (kM 4)=true by decide+kernel];simp
def lD(k:Nat):(kM k).size<=9223372036854775807:=by
 match k with
 |0=>decide
 |1=>decide
 |2=>decide
 |3=>decide
 |k+4=>show(ByteArray.mk #[102,95,50]).size<=_;decide
structure SB (s:gW):Prop where
 r9: -1000000000<=s.r9/\s.r9<=1000000000
 i5: -1000000000<=s.i5/\s.i5<=1000000000
 i4: -100000000<=s.i4/\s.i4<=100000000
 cm: -100000000<=s.cm/\s.cm<=100000000
 a0: -1000000000<=s.a0/\s.a0<=1000000000
 a1: -1000000000<=s.a1/\s.a1<=1000000000
 a2: -1000000000<=s.a2/\s.a2<=1000000000
 a3: -1000000000<=s.a3/\s.a3<=1000000000
 p0: -1000000000<=s.p0/\s.p0<=1000000000
 p1: -1000000000<=s.p1/\s.p1<=1000000000
 order: -3<=s.order/\s.order<=3
 tg: -1000000000<=s.tg/\s.tg<=1000000000
 i6:0<=s.i6/\s.i6<=1000000000
 i7:0<=s.i7/\s.i7<=1000000000/\(s.i6=0\/s.i7<s.i6)
 dx: -1000000000<=s.dx/\s.dx<=1000000000
 dy: -1000000000<=s.dy/\s.dy<=1000000000
 ax: -90000000<=s.ax/\s.ax<=90000000
 ay: -90000000<=s.ay/\s.ay<=90000000
 az: -90000000<=s.az/\s.az<=90000000
 gA:(s.gA.toList.isEmpty||kI s.gA)=true
def mY{lo hi z:Int}(h:lo<=z/\z<=hi):jr lo hi [z]=false:=by simp[jr];omega
def zP{s:gW}{zs:List Int}{n:Nat}(d:zs.length=n*3)(e:n<=8)(hf:(List.range n).all (mP zs)=true)(h:SB s)(c:rM s n=true):oA s zs n=true:=by
 rw[<- zq s zs n d];unfold tJ nX
 have a:sm s=true:=by
  unfold sm;rw[nY _ _ s.a0,nY _ _ s.a1,nY _ _ s.a2,mY h.a0,mY h.a1,mY h.a2,mY h.a3];rfl
 have b:sr s n=true:=by
  unfold sr rI;rw[mY h.r9,mY h.i5,mY h.i4,mY h.cm,mY h.p0,mY h.p1,mY h.tg,mY h.dx,mY h.dy,mY h.ax,mY h.ay,mY h.az,h.gA];have h1:=h.i6;have h2:=h.i7;have h3:=h.order;simp;omega
 rw[a,hf,b,c];rfl
def mR:gW:=⟨0,0,0,0,0,0,0,0,0,0,0,0,0,ik,0,0,0,0,0,0,0⟩
def Tryz.infoDrS:(prog.info? 99).map (·.size)=some 22:=by kernel_rfl
def wu{ops:Array Oper}{d:List Oper}{e:Oper}{f:Act}{w:World}{Q:Exit->Act->World->Prop}{b o:Nat}{x:tz}{a:Option Addr}{n c:Nat}(h:w.rangeAt b o (pg x a n c))(g:e.guard=none)(y:Operand)(j:e.op=.load 99 y)
 (k:f.eval y=.pointer (some ⟨b,o,none⟩))(i:wpList prog ops Q d (f.put e.dst (Rf x a n c)) w):wpList prog ops Q (e::d) f w:=
 wpList_load_mid g 99 y j b o k (pg x a n c) _ h underlying99 rfl Tryz.infoDrS i
def EV(w:World):Calls prog 48 #[] w (fun e w'=>e=.returned (.slice (J (w.heap.size)) 5 5)/\(∀k,k<5->w'.cell? ⟨w.heap.size,k,none⟩=some (.string (kM k)))/\w.heap.size<w'.heap.size/\Below w w w'):=by
 go_enter func48,ntmps48;go_wp2;go_ret;refine⟨rfl,fun k a=>?_,by simp,gY (TH _ _)⟩;rw[World.cell?_alloc_at _ _ _ _ rfl]
 match k,a with
 |0,_=>rfl
 |1,_=>rfl
 |2,_=>rfl
 |3,_=>rfl
 |4,_=>rfl
structure D9 (w:World) (x:tz) (a:Option Addr) (n c:Nat) (g:Nat) (s:gW) (zs:List Int) (ca:Option Addr) (cn cc:Nat) (wx:World):Prop where
 d:Bj wx w x a n c
 z:wx.heap[w.heap.size+1]? =some (.cells zS 58 (0,0))
 s:Y wx g s ca cn cc
 gt:w.heap.size+1<g
 b:Below w w wx
 f:jN (fun b=>w.heap.size<=b/\b<wx.heap.size/\b≠w.heap.size+1/\b≠g) wx ca cn cc zs
 cc:ca=none->cc=0
def D9.set{w:World}{x:tz}{a:Option Addr}{n c:Nat}{g:Nat}{s:gW}{zs:List Int}{j:Option Addr}{cn cc:Nat}{e:World}(h:D9 w x a n c g s zs j cn cc e)(i:Nat)(v:Value)(s':gW)(l:Y (e.setCell ⟨g,i,none⟩ v) g s' j cn cc):
 D9 w x a n c g s' zs j cn cc (e.setCell ⟨g,i,none⟩ v):=by
 have k:gN (fun b=>b≠g) e (e.setCell ⟨g,i,none⟩ v):=gK g [v] i e;have m:(e.setCell ⟨g,i,none⟩ v).heap.size=e.heap.size:=im g [v] i e;have o:=h.gt;exact⟨(k _ (by omega)).trans h.d,(k _ (by omega)).trans h.z,l,h.gt,h.b.setCell (p:=⟨g,i,none⟩) (by show w.heap.size<=g;omega) v,h.f.kept (k.mono (fun b h=>h.2.2.2)) (fun b hb=>by rw[m];exact hb),h.cc⟩
def D9.p8{w:World}{x:tz}{a:Option Addr}{n c:Nat}{g:Nat}{s:gW}{zs l:List Int}{r e:Option Addr}{cn cc i f:Nat}{k j:World}(h:D9 w x a n c g s zs r cn cc k)(hb:Below k k j)
 (hf:jN (fun b=>k.heap.size<=b/\b<j.heap.size) j e i f l)(t:e=none->f=0):D9 w x a n c g s l e i f (j.setCell ⟨g,21,none⟩ (.slice e i f)):=by
 have m:gN (fun b=>b≠g) j (j.setCell ⟨g,21,none⟩ (.slice e i f)):=gK g [Z e i f] 21 j;have u:(j.setCell ⟨g,21,none⟩ (.slice e i f)).heap.size=j.heap.size:=im g [Z e i f] 21 j;have y:=h.gt;have hgl:=h.s.lt;have q:=TK h.z;have v:=TK h.d;refine⟨(m _ (by omega)).trans (h.d.go hb),(m _ (by omega)).trans ((hb.block _ q).trans h.z),Y.p8 (h.s.go hb hgl) _ _ _,h.gt,(I h.b hb).setCell (p:=⟨g,21,none⟩) (by show w.heap.size<=g;omega) _,hf.kept (m.mono (fun b h=>by have:=h.1;omega)) (fun b o=>?_),t⟩;rw[u];have:=o.1;exact⟨by omega,o.2,by omega,by omega⟩
def D9.put{w:World}{x:tz}{a:Option Addr}{n c:Nat}{g:Nat}{s:gW}{zs:List Int}{i:Option Addr}{cn cc:Nat}{e:World}(h:D9 w x a n c g s zs i cn cc e)(s':gW):D9 w x a n c g s' [] none 0 0 (vS e g s' none 0 0):=by
 have f:gN (fun b=>b≠g) e (vS e g s' none 0 0):=gK g (gX s' none 0 0) 0 e;have j:=h.gt;exact⟨(f _ (by omega)).trans h.d,(f _ (by omega)).trans h.z,Y.stored h.s rfl _ _ _ _,h.gt,Below.put22 h.b (by omega) _ _ _ _,jN.nil _ _,fun _=>rfl⟩
def S9{z:Int}(h:z.tmod 2≠0):z.tmod 4≠0:=fun e=>h (Int.tmod_eq_zero_of_dvd (Int.dvd_trans (by decide:(2:Int)∣ 4) (Int.dvd_of_tmod_eq_zero e)))
def sA(x:tz)(s:gW):Nat->gW
 |0=>s
 |1=>{s with a0:=1000*x.h0}
 |2=>{s with a0:=1000*x.h0,a1:=1000*x.h1}
 |3=>{s with a0:=1000*x.h0,a1:=1000*x.h1,a2:=1000*x.h2}
 |_=>{s with a0:=1000*x.h0,a1:=1000*x.h1,a2:=1000*x.h2,a3:=1000*x.h3}
def jH(x:tz)(mk a:Int)(g:Nat):gW:={mR with kind:=1,r9:=1000*x.c0,i4:=1000*mk,tg:=1000*a,gA:=kM g,i6:=100000*x.i6}
def tz.In.all{x:tz}(h:x.In):(-32768<=x.c0/\x.c0<=32767/\ -32768<=x.c1/\x.c1<=32767)/\(-128<=x.h0/\x.h0<=127/\ -128<=x.h1/\x.h1<=127/\ -128<=x.h2/\x.h2<=127/\ -128<=x.h3/\x.h3<=127)/\(-128<=x.p0/\x.p0<=127/\ -128<=x.p1/\x.p1<=127)/\(0<=x.i6/\x.i6<=255)/\
 (-128<=x.b0/\x.b0<=127/\ -128<=x.b1/\x.b1<=127/\ -128<=x.b2/\x.b2<=127/\ -128<=x.b3/\x.b3<=127/\ -128<=x.b4/\x.b4<=127):=by
 obtain⟨_,⟨_,_⟩,⟨_,_⟩,_,_,⟨_,_⟩,⟨_,_⟩,⟨_,_⟩,⟨_,_⟩,⟨_,_⟩,⟨_,_⟩,_,_,_,⟨_,_⟩,_,⟨_,_⟩,⟨_,_⟩,⟨_,_⟩,⟨_,_⟩,⟨_,_⟩⟩:=h;omega
def Ri{x:tz}(d:x.In){mk a h:Int}{c:Nat}(e: -3000<mk/\mk<3000)(f: -20000<a/\a<20000)(b:c<5)(h0:0<=h)(h1:h=0\/h<100000*x.i6):
 oA {jH x mk a c with i7:=h} [] 0=true:=by
 have g:=d.all;refine zP rfl (by omega) rfl ?_ ?_
 .constructor<;>first|exact qE _ b|(simp only[jH,mR];omega)
 .simp[rM,mT,kK,jH,mR]
def PG{x:tz}(d:x.In){mk a h:Int}{c:Nat}(f: -3000<mk/\mk<3000)(g: -20000<a/\a<20000)(b:c<5)(h0:0<=h)(h1:h=0\/h<100000*x.i6){zs:List Int}{n:Nat}(e:zs.length=n*3)(i:n<=3)(hf:(List.range n).all (mP zs)=true):
 oA (sA x {jH x mk a c with i7:=h} 4) zs n=true:=by
 have j:=d.all;refine zP e (by omega) hf ?_ ?_
 .constructor<;>first|exact qE _ b|(simp only[sA,jH,mR];omega)
 .simp[rM,mT,kK,sA,jH,mR]
def Rj{x:tz}(e:x.In){mk b h a:Int}{d:Nat}(g: -3000<mk/\mk<3000)(f: -3000<a/\a<3000)(i: -20000<b/\b<20000)(c:d<5)(h0:0<=h)(h1:h=0\/h<100000*x.i6):
 oA {jH x mk b d with i7:=h,kind:=2,i5:=1000*x.c1,cm:=1000*a} [] 0=true:=by
 have j:=e.all;refine zP rfl (by omega) rfl ?_ ?_
 .constructor<;>first|exact qE _ c|(simp only[jH,mR];omega)
 .simp[rM,qw,kK,jH,mR]
def wv(x:tz)(a:Int):gW:={mR with kind:=3,tg:=1000*a,dx:=10000*x.b0,dy:=10000*x.b1,ax:=100000*x.b2,ay:=100000*x.b3,az:=100000*x.b4}
def Rk{x:tz}(c:x.In){a:Int}(d: -20000<a/\a<20000):oA (wv x a) [] 0=true:=by
 have e:=c.all;have b:=(qz ik).2 rfl;refine zP rfl (by omega) rfl ?_ ?_
 .constructor<;>first|exact qE 0 (by omega)|(simp only[wv,mR];omega)|(simp[wv,mR])
 .simp[rM,mT,qw,xN,wv,mR,b]
def Cj(x:tz)(a h:Int):gW:={mR with kind:=4,r9:=1000*x.c0,tg:=1000*a,i6:=100000*x.i6,i7:=h}
def Rl{x:tz}(c:x.In){a h:Int}(d: -20000<a/\a<20000)(h0:0<=h)(h1:h=0\/h<100000*x.i6):oA (Cj x a h) [] 0=true:=by
 have e:=c.all;have b:=(qz ik).2 rfl;refine zP rfl (by omega) rfl ?_ ?_
 .constructor<;>first|exact qE 0 (by omega)|(simp only[Cj,mR];omega)
 .simp[rM,mT,qw,kK,xN,Cj,mR,b]
def Rm{x:tz}(g:x.In){mk c h a:Int}{b:Nat}(i: -3000<mk/\mk<3000)(k: -20000<c/\c<20000)(e:b<5)(h0:0<=h)(h1:h=0\/h<100000*x.i6)(j: -4<a/\a<4)(d:a≠0)(f:kT (kM b)=false):
 oA {jH x mk c b with i7:=h,order:=a,p0:=1000*x.p0,p1:=1000*x.p1} [] 0=true:=by
 have l:=g.all;refine zP rfl (by omega) rfl ?_ ?_
 .constructor<;>first|exact qE _ e|(simp only[jH,mR];omega)
 .simp[rM,mT,kK,jH,mR,d,f]
def xh(x:tz):Int:=if x.i7.tmod 4=1/\0<x.i6 then(100000*x.i6).tdiv 4 else 0
def zQ(x:tz):gW:={jH x (x.k0.tmod 3000) (x.tg.tmod 20000) (x.gA.tmod 5).toNat with i7:=xh x}
def oh(x:tz):gM:=
 if x.kind.tmod 8=4 then⟨sA x (zQ x) 4,sI x.fb (min 3 x.fb.length)⟩
 else if x.kind.tmod 8=5 then⟨{zQ x with kind:=2,i5:=1000*x.c1,cm:=1000*x.k1.tmod 3000},[]⟩
 else if x.kind.tmod 8=6 then⟨wv x (x.tg.tmod 20000),[]⟩
 else if x.kind.tmod 8=7 then
  (if x.order.tmod 2=0 then⟨Cj x (x.tg.tmod 20000) (xh x),[]⟩
   else if kT (kM (x.gA.tmod 5).toNat)=true then⟨zQ x,[]⟩
   else⟨{zQ x with order:=x.order.tmod 4,p0:=1000*x.p0,p1:=1000*x.p1},[]⟩)
 else⟨zQ x,[]⟩
def Rn{x:tz}{mk b h:Int}{a:Nat}(h1:x.k0.tmod 3000=mk)(h2:x.tg.tmod 20000=b)(h3:x.gA.tmod 5=(a:Int))(c:h=xh x):{jH x mk b a with i7:=h}=zQ x:=by
 unfold zQ;rw[h1,h2,h3,c];rfl
def Nn(x:tz)(w:World)(e:Ending)(w':World):Prop:=
 ∃(s:gW)(a:Option Addr)(n c:Nat)(zs:List Int),(⟨s,zs⟩:gM)=oh x/\e=.returned (.agg (⟨s,a,n,c⟩:jt))/\jN (fun b=>w.heap.size<=b/\b<w'.heap.size) w' a n c zs/\(a=none->c=0)/\n<=3/\oA s zs n=true/\s.gA.size<=9223372036854775807/\Below w w w'
def uD{w:World}{x:tz}{a:Option Addr}{n c:Nat}{g:Nat}{s:gW}{zs:List Int}{d:Option Addr}{cn cc:Nat}{e:World}(h:D9 w x a n c g s zs d cn cc e)(m:(⟨s,zs⟩:gM)=oh x)(l:oA s zs cn=true)(k:cn<=3)(i:s.gA.size<=9223372036854775807):
 Nn x w (.returned (.agg (⟨s,d,cn,cc⟩:jt))) (vS e (w+1) s d cn cc):=by
 have j:gN (fun b=>b≠w.heap.size+1) e (vS e (w+1) s d cn cc):=gK (w+1) (gX s d cn cc) 0 e;have o:(vS e (w+1) s d cn cc).heap.size=e.heap.size:=im (w+1) (gX s d cn cc) 0 e;exact⟨s,d,cn,cc,zs,m,rfl,h.f.kept (j.mono (fun b h=>h.2.2.1)) (fun b h=>⟨h.1,by rw[o];exact h.2.1⟩),h.cc,k,l,i,Below.put22 h.b (bY _) _ _ _ _⟩
def No{w:World}{x:tz}{a:Option Addr}{n c:Nat}{g:Nat}{s s':gW}{zs:List Int}{e:Option Addr}{cn cc:Nat}{d:World}(h:D9 w x a n c g s zs e cn cc d)(j:(⟨s',[]⟩:gM)=oh x)(i:oA s' [] 0=true)(f:s'.gA.size<=9223372036854775807):
 Nn x w (.returned (.agg (⟨s',none,0,0⟩:jt))) (vS d (w+1) s' none 0 0):=
 ⟨s',none,0,0,[],j,rfl,jN.nil _ _,fun _=>rfl,by omega,i,f,Below.put22 h.b (bY _) _ _ _ _⟩
def Bj.range{w:World}{g:Nat}{x:tz}{a:Option Addr}{n c:Nat}(h:Bj w g x a n c):w.rangeAt g 0 (pg x a n c):=by
 intro j v b;rw[VV h];simpa using b
def bt(n b a:Int):Bool:=decide (b<=n)&&decide (n<=a)
def jc(n c a:Int)(w:World):Calls prog 66 #[n,c,a] w (iZ w (.bool (bt n c a))):=by
 go_enter func66,ntmps66;go_wp2
 all_goals
  go_ret;refine⟨ai (fun b=>Ending.returned (Value.bool b)) ?_,TH _ _⟩;rw[bJ];simp[bt] <;>omega
def ix(n c a:Int)(w:World):Calls prog 52 #[n,c,a] w (iZ w (.bool (bt n c a))):=by
 go_enter func52,ntmps52;go_wp2
 all_goals
  go_ret;refine⟨ai (fun b=>Ending.returned (Value.bool b)) ?_,TH _ _⟩;rw[bJ];simp[bt] <;>omega
def pM(s:gW)(n:Nat):Bool:=decide (s.kind=1)&&s.gA.toList.isEmpty&&decide (s.tg=0)&&decide (s.order=0)&&decide (n=0)
def BU(s:gW)(a:Option Addr)(n c:Nat)(w:World):Calls prog 104 #[.agg (⟨s,a,n,c⟩:jt)] w (iZ w (.bool (pM s n))):=by
 have d:=O (Y.new w s a n c);have b:=O ((TH w w).alloc (ag _) (.cells (⟨s,a,n,c⟩:jt) 58));go_enter func104,ntmps104;go_upto_region 1 with fail;refine gI (fun j=>Y j w s a n c/\Below w w j) ⟨d,b⟩ ?_;clear d b;rintro k ⟨h1,e:HQ _⟩;obtain⟨k0,_,_,_,_,_,_,_,_,_,_,f,g,h,_,_,_,_,_,_,_,i⟩:=h1.cells;clear h1;cases q1:(s.kind==1) <;>cases q2:s.gA.toList.isEmpty<;>cases q3:(s.tg==0) <;>cases q4:(s.order==0) <;>cases q5:((n:Int)==0)
 all_goals
  go_wp2;go_ret;refine⟨?_,e⟩;clear e k0 f g h i;simp[pM,q2]at*
  try omega
def tr(x:gM):Bool:=oA x.s x.zs (x.zs.length/3)
def mU{S:Nat->Prop}{w:World}{a:Option Addr}{n c:Nat}{zs:List Int}(h:IRp S w 3 a n c zs):n=zs.length/3:=by rw[h.1];omega
def Pk(x:gM)(a:Option Addr)(n c:Nat)(w:World)(f:IR w w 3 a n c x.zs)(l:n<=1000000)(k:x.s.gA.size<=9223372036854775807):
 Calls prog 101 #[.agg (⟨x.s,a,n,c⟩:jt)] w (iZ w (.bool (!tr x))):=by
 have d:tr x=oA x.s x.zs n:=by unfold tr;rw[<- mU (S:=fun _=>True) (f.irp (fun _ _=>trivial))]
 have i:=O (Y.new w x.s a n c);have j:=O f;have h:=O d;clear f d;go_enter func101,ntmps101;cases ho:oA x.s x.zs n
 all_goals
  have g:=O ho;clear ho
  go_wp2_with(first
   |(refine gO i rfl (.tmp 1) rfl rfl ?_)
   |((with_reducible refine(nC x.s x.zs a n c _ (j.out.go ((TH _ _).alloc (ag _) _)) l k).mono ?_);rintro e m ⟨b,hb⟩;rw[g]at b;unfold err at b;simp only[bX,de,bC]at b;subst b))
  go_ret;exact⟨by rw[h,g];rfl,I (gY (TH _ _)) hb⟩
def uM(l:List gM):Bool:=l.any fun x=>!tr x
def wV{α:Type}{f:α->Bool}{l:List α}{k:Nat}{x:α}(h:l[k]? =some x)(h0:(l.take k).any f=false):(l.take (k+1)).any f=f x:=by
 rw[mn h,eo,h0];simp
def yI{α:Type}{f:α->Bool}{l:List α}{k:Nat}{x:α}(h:l[k]? =some x)(h0:f x=true):l.any f=true:=cw.2 ⟨x,aL h,h0⟩
def Ka(l:List gM)(a:Option Addr)(n c:Nat)(w:World)(h:RR jE 22 (fun b=>b<w.heap.size) w a n c l)(t:n<=1000000):
 Calls prog 152 #[Z a n c,.func (.func 101) #[] #[]] w (Jl w (uM l)):=by
 have H:=O h;clear h;have d:=H.out.1;go_enter func152,ntmps152;go_wp2
 go_loopw [8] (fun m wr=>∃k:Nat,k<=n/\m=.int .i64 (k:Int)/\(l.take k).any (fun x=>!tr x)=false/\Below w w wr) (fun m _=>n-(intOf m).toNat)
 case atStart=>exact⟨0,aA _,rfl,rfl,TH _ _⟩
 case round=>
  obtain⟨k,s,rfl,o:HQ _,Hb:HQ _⟩:=hrel;by_cases q:k<n
  .obtain⟨b,off,x,cs,rfl,hlt,p:HQ _,⟨a2,n2,c2,rfl,hz,hn2,hc2,Hg2:HQ _⟩,Hr:HQ _⟩:=(H.out.go iD Hb.out).at q
   have r:=O (hz.ir (fun _ h=>h));clear hz hc2;cases hv:tr x
   all_goals
    have i:=O hv;clear hv
    go_wp2_with(first
     |(refine lw Hr.out rfl (.tmp 14) rfl rfl ?_)
     |((with_reducible refine(Pk x _ n2 c2 _ r.out hn2 Hg2.out).mono ?_);rintro e u ⟨j,g⟩;rw[i.out]at j;simp only[gf,fT]at j;subst j))
   .go_ret
    refine⟨(k:Int),rfl,?_,I Hb.out g⟩;unfold uM;rw[yI (f:=fun x=>!tr x) p.out (by rw[i.out];rfl)];simp
   .go_roundw
    case rel=>exact⟨k+1,by omega,by go_num,(wV p.out o.out).trans (by rw[i.out];rfl),I Hb.out g⟩
    case measure=>simp[intOf];omega
  .obtain rfl:k=n:=by omega
   go_wp2;go_ret;refine⟨-1,rfl,?_,Hb.out⟩;have h1:=o.out;rw[<- d,bf]at h1;unfold uM;rw[h1];rfl
def su(l:List gM)(a:Option Addr)(n c:Nat)(w:World)(h:RR jE 22 (fun b=>b<w.heap.size) w a n c l)(g:n<=1000000):
 Calls prog 103 #[Z a n c,.func (.func 101) #[] #[]] w (iZ w (.bool (uM l))):=by
 go_enter func103,ntmps103;go_wp2_with fail;refine(Ka l a n c _ h g).mono ?_;rintro e i ⟨r,rfl,d,hb⟩;by_cases h0:0<=r
 .rw[aP h0]at d
  have f:=O d;clear d;go_wp2;go_ret;exact⟨by rw[<- f.out];rfl,hb⟩
 .rw[aw h0]at d
  have f:=O d;clear d;have h1:decide (0<=r)=false:=aw h0;go_wp2;go_ret;exact⟨by rw[<- f.out];rfl,hb⟩
def oK(zs:List Int)(n:Nat)(s p:Int):Bool:=(List.range n).any fun k=>(zs.getD (k*3) 0==s)&& (zs.getD (k*3+1) 0==p)
def Kb(s p v a p0:Int)(g:Nat)(w:World)(h0:w.cell? (J g)=some (.int .i64 a))(h1:w.cell? ⟨g,1,none⟩=some (.int .i64 p0))(b:g<w.heap.size):
 Calls prog 155 #[.agg #[s,p,v],U g] w (iZ w (.bool ((s==a)&& (p==p0)))):=by
 cases q1:(s==a) <;>cases q2:(p==p0)
 all_goals
  go_enter func155,ntmps155;go_wp2;go_ret;exact⟨rfl,gY (TH _ _)⟩
def lL{f:Nat->Bool}{k:Nat}(h:(List.range k).any f=false):(List.range (k+1)).any f=f k:=by
 rw[bV,eo,h];simp
def lM{f:Nat->Bool}{n k:Nat}(a:k<n)(h:f k=true):(List.range n).any f=true:=cw.2 ⟨k,aJ.2 a,h⟩
def Eo(zs:List Int)(a:Option Addr)(n c:Nat)(d p0:Int)(g:Nat)(w:World)(h:IR w w 3 a n c zs)(y:n<=1000000)(h0:w.cell? (J g)=some (.int .i64 d))(h1:w.cell? ⟨g,1,none⟩=some (.int .i64 p0))(j:g<w.heap.size):
 Calls prog 194 #[Z a n c,.func (.func 155) #[] #[U g]] w (Jl w (oK zs n d p0)):=by
 have H:=O h;have s:=O h0;have t:=O h1;clear h h0 h1;go_enter func194,ntmps194;go_wp2
 go_loopw [8] (fun l wr=>∃k:Nat,k<=n/\l=.int .i64 (k:Int)/\oK zs k d p0=false/\Below w w wr) (fun l _=>n-(intOf l).toNat)
 case atStart=>exact⟨0,aA _,rfl,rfl,TH _ _⟩
 case round=>
  obtain⟨k,x,rfl,o:HQ _,Hb:HQ _⟩:=hrel;by_cases i:k<n
  .obtain⟨b,off,rfl,hlt,A,x1,x2⟩:=(H.out.go Hb.out).at3 i
   have hf:∀v,((zs.getD (k*3) 0==d)&& (zs.getD (k*3+1) 0==p0))=v->(fun k=>(zs.getD (k*3) 0==d)&& (zs.getD (k*3+1) 0==p0)) k=v:=fun v h=>h
   have m:=O (lL o.out);have c0:=O ((Hb.out.cell (p:=J g) j).trans s.out);have c1:=O ((Hb.out.cell (p:=⟨g,1,none⟩) j).trans t.out);cases hv:((zs.getD (k*3) 0==d)&& (zs.getD (k*3+1) 0==p0))
   all_goals
    have q:=O hv;have u:=O (hf _ hv);clear hv hf;generalize zs.getD (k*3) 0=y0 at*;generalize zs.getD (k*3+1) 0=y1 at*;generalize zs.getD (k*3+2) 0=y2 at*
    go_wp2_with((with_reducible refine(Kb y0 y1 y2 d p0 g _ c0.out c1.out (eb j Hb.out.size)).mono ?_);rintro e z ⟨r,f⟩;rw[q.out]at r;subst r)
   .go_roundw
    case rel=>exact⟨k+1,by omega,by go_num,m.out.trans q.out,I Hb.out f⟩
    case measure=>simp[intOf];omega
   .go_ret
    refine⟨(k:Int),rfl,?_,I Hb.out f⟩;unfold oK;rw[lM i u.out];simp
  .obtain rfl:k=n:=by omega
   go_wp2;go_ret;exact⟨-1,rfl,by rw[o.out];rfl,Hb.out⟩
def tK(zs:List Int)(a:Option Addr)(n c:Nat)(i p0:Int)(g:Nat)(w:World)(h:IR w w 3 a n c zs)(m:n<=1000000)(h0:w.cell? (J g)=some (.int .i64 i))(h1:w.cell? ⟨g,1,none⟩=some (.int .i64 p0))(l:g<w.heap.size):
 Calls prog 156 #[Z a n c,.func (.func 155) #[] #[U g]] w (iZ w (.bool (oK zs n i p0))):=by
 have j:=O h0;have k:=O h1;clear h0 h1;go_enter func156,ntmps156;go_wp2_with fail;refine(Eo zs a n c i p0 g _ h m j.out k.out l).mono ?_;rintro e o ⟨r,rfl,b,hb⟩;by_cases d:0<=r
 .rw[aP d]at b
  have f:=O b;clear b;go_wp2;go_ret;exact⟨by rw[<- f.out];rfl,hb⟩
 .rw[aw d]at b
  have f:=O b;clear b;have h1:decide (0<=r)=false:=aw d;go_wp2;go_ret;exact⟨by rw[<- f.out];rfl,hb⟩
def nZ(k:Int):List Int:=if k=1 then[1,2,5,6,7,8,10]else if k=2 then[1,2,3,4,10]else if k=3 then[11,12,13,14,15]else if k=4 then[1,10]else[]
def jY(N:Nat)(w:World):Prop:=
 ∃r,w.cell? (J 7)=some (.map (some r))/\7<N/\r<N/\ ∃d b,w.heap[r]? =some (.map d b)/\
  ∀k:Int,1<=k->k<=4-> ∃i a n c,Instr.findNow (.int .i64) (.int .i64 k) d.toList 0=some (some (i,.slice a n c))/\IR N w 1 a n c (nZ k)
def jY.below{N:Nat}{w w':World}(h:jY N w)(hb:Below N w w'):jY N w':=by
 obtain⟨r,h0,d,f,g,b,h1,h2⟩:=h;refine⟨r,(hb.cell (p:=J 7) d).trans h0,d,f,g,b,(hb.block r f).trans h1,fun k l e=>?_⟩;obtain⟨i,a,n,c,h3,j⟩:=h2 k l e;exact⟨i,a,n,c,h3,j.below hb (ag _)⟩
def jY.mono{N M:Nat}{w:World}(h:jY N w)(g:N<=M):jY M w:=by
 obtain⟨r,h0,l,m,e,b,h1,h2⟩:=h;refine⟨r,h0,by omega,by omega,e,b,h1,fun k j d=>?_⟩;obtain⟨i,a,n,c,h3,f⟩:=h2 k j d;exact⟨i,a,n,c,h3,f.mono g⟩
def jY.go{w w':World}(h:jY w w)(hb:Below w w w'):jY w' w':=(h.below hb).mono hb.size
def tL{P:Program}{t kt e:TypeId}(h:P.underlying t=some (.map kt e))(d:P.underlying kt=some (.int .i64)){w:World}{r i:Nat}{k:Int}{v:Value}{c:Array MapEntry}{a:Nat}(g:w.heap[r]? =some (.map c a))(hf:Instr.findNow (.int .i64) (.int .i64 k) c.toList 0=some (some (i,v))):
 (Instr.lookup t (.map (some r)) (.int .i64 k) false).run P w=.ok v w:=by
 have f:∀b,(Instr.checkKey b 10000 kt (.int .i64 k)).run P w=.ok () w:=fun b=>by
  rw[show(10000:Nat)=9999+1 from rfl,Instr.checkKey,bR,bQ d];rfl
 simp[Instr.lookup,Instr.findKey,bR,bQ h,bQ d,MapKept.run_getObj_map g,f,hf]
def IR.sl{N:Nat}{w:World}{a:Option Addr}{n c:Nat}{zs:List Int}(h:IR N w 1 a n c zs):SL N w a n c zs:=
 ⟨by rw[h.1,dn],h.2.1,fun b=>by have:=h.2.2 b;rwa[dn]at this⟩
def Kc{f:Int->Bool}{zs:List Int}{k:Nat}(h:k<zs.length)(h0:(zs.take k).any f=false)(v:Bool)(a:f (zs.getD k 0)=v):(zs.take (k+1)).any f=v:=(Ee h h0).trans a
def Kd(zs:List Int)(a:Option Addr)(n c:Nat)(v:Int)(w:World)(h:SL w w a n c zs)(t:n<=1000000):
 Calls prog 255 #[Z a n c,v] w (Jl w (zs.any fun z=>v==z)):=by
 have d:=O (h.len);have q:=O h;clear h;go_enter func255,ntmps255;go_wp2
 go_loopw [8] (fun i wr=>∃k:Nat,k<=n/\i=.int .i64 (k:Int)/\((zs.take k).any fun z=>v==z)=false/\Below w w wr) (fun i _=>n-(intOf i).toNat)
 case atStart=>exact⟨0,aA _,rfl,rfl,TH _ _⟩
 case round=>
  obtain⟨k,s,rfl,l:HQ _,Hb:HQ _⟩:=hrel;by_cases e:k<n
  .obtain⟨b,off,rfl,hlt,o⟩:=(q.go Hb).at (by omega)
   have c0:=o k e;clear o;have g:=Kc (f:=fun z=>v==z) (k:=k) (by rw[<- d];exact e) l;have j:=O g;clear g;cases hv:(v==zs.getD k 0)
   all_goals
    have m:=O (j _ hv);clear j;generalize zs.getD k 0=z at*;go_wp2
   .go_roundw
    case rel=>exact⟨k+1,by omega,by go_num,m,Hb⟩
    case measure=>simp[intOf];omega
   .go_ret
    refine⟨(k:Int),rfl,?_,Hb⟩;rw[aP (by omega)]
    symm
    obtain⟨x,r,p⟩:=cw.1 m;exact cw.2 ⟨x,List.mem_of_mem_take r,p⟩
  .obtain rfl:k=n:=by omega
   go_wp2;go_ret;refine⟨-1,rfl,?_,Hb⟩;have h1:=l.out;rw[d,bf]at h1;rw[h1];rfl
def CX(zs:List Int)(a:Option Addr)(n c:Nat)(v:Int)(w:World)(h:SL w w a n c zs)(g:n<=1000000):
 Calls prog 251 #[Z a n c,v] w (iZ w (.bool (zs.any fun z=>v==z))):=by
 go_enter func251,ntmps251;go_wp2_with fail;refine(Kd zs a n c v _ h g).mono ?_;rintro e i ⟨r,rfl,b,hb⟩;by_cases d:0<=r
 .rw[aP d]at b
  have f:=O b;clear b;go_wp2;go_ret;exact⟨by rw[<- f];rfl,hb⟩
 .rw[aw d]at b
  have f:=O b;clear b;have h1:decide (0<=r)=false:=aw d;go_wp2;go_ret;exact⟨by rw[<- f];rfl,hb⟩
def A3(k:Int):(nZ k).length<=7:=by unfold nZ;split;decide;split;decide;split;decide;split<;>decide
def Pl(r:Nat)(k v:Int)(w:World)(o:jY w w)(g:w.cell? (J 7)=some (.map (some r)))(h1:1<=k)(j:k<=4):
 Calls prog 245 #[.map (some r),k,v] w (iZ w (.bool ((nZ k).any fun z=>v==z))):=by
 obtain⟨s,h0,_,hlt,p,d,b,f⟩:=o;rw[g]at h0;cases h0;obtain⟨i,a,n,c,hf,hi⟩:=f k h1 j;have q:=tL underlying309 underlying3 b hf
 have m:n<=1000000:=by have:=A3 k;have:=hi.1;omega
 have h:=O hi.sl;clear b f hf hi g;go_enter func245,ntmps245
 go_wp2_with((with_reducible refine(CX (nZ k) a n c v _ h.out m).mono ?_);rintro e t ⟨l,hb⟩;subst l)
 go_ret;exact⟨rfl,hb⟩
def tt(s:gW)(p:Int):Bool:=if p=16\/p=17 then !(s.order==0)else(p==9)||(nZ s.kind).any fun z=>p==z
def Ep(s:gW)(p:Int)(a:Option Addr)(n c:Nat)(w:World)(b:jY w w)(h1:1<=s.kind)(x:s.kind<=4):
 Calls prog 237 #[.agg (⟨s,a,n,c⟩:jt),p] w (iZ w (.bool (tt s p))):=by
 have m:=O (Y.new w s a n c);have l:=(TH w w).alloc (ag _) (.cells (⟨s,a,n,c⟩:jt) 58);have o:=O l;have f:=O (b.go l);clear l b;go_enter func237,ntmps237;go_upto_region 1 with fail;refine gI (fun h=>Y h w s a n c/\Below w w h/\jY h h) ⟨m,o,f⟩ ?_;clear m o f;rintro D ⟨u,hb,b⟩;obtain⟨r,h0,_⟩:=id b;obtain⟨k0,_,_,_,_,_,_,_,_,_,_,A,_⟩:=u.cells;have j:=O hb;have f:=O b;clear hb b u;by_cases g:p=16\/p=17
 .have d:tt s p=!(s.order==0):=by unfold tt;rw[aq g]
  have k:=O d;clear d
  obtain rfl|rfl:=g
  all_goals
   go_wp2;go_ret;exact⟨by rw[k];rfl,j⟩
 .have d:tt s p=((p==9)||(nZ s.kind).any fun z=>p==z):=by unfold tt;rw[aj g]
  have k:=O d;clear d
  have B:(p==16)=false:=by simp;omega
  have C:(p==17)=false:=by simp;omega
  have v:=O h0;clear g;cases q:(p==9)
  all_goals
   have Q:=O q
   go_wp2_with((with_reducible refine(Pl r s.kind p _ f.out v.out h1 x).mono ?_);rintro e E ⟨y,i⟩;subst y;have t:=O i;clear i)
   go_ret;rw[k,Q]
  .exact⟨rfl,I j t⟩
  .exact⟨rfl,j⟩
def vJ{w:World}{a:Addr}{v:Value}(h:w.cell? a=some v):a=⟨a.block,a.off,none⟩/\a.block<w.heap.size:=by
 unfold World.cell? at h;split at h
 .rename_i c _ _ hb
  split at h
  .cases h
  .rename_i hs
   refine⟨?_,TK hb⟩;obtain⟨b,o,s⟩:=a
   cases s with
   |none=>rfl
   |some s=>simp at hs
 .cases h
def Qe:prog.globalNamed "monocle/surface.places" =some 7:=by kernel_rfl
def Qf:(prog.globals[7]?).map (·.type)=some 309:=by kernel_rfl
def Mv{P:Program}{e:TypeId}{v:Value}{a:Option Addr}{n c:Nat}{d:TypeId}(f:P.underlying e=some (.slice d))(hf:v.formed P e=true)(b:v.cells.toList=[.slice a n c]):v=.slice a n c:=by
 cases v<;>simp_all [Value.formed,Value.cells]
def OV{P:Program}{k:TypeId}(b:P.underlying k=some (.int .i64)){v:Value}{l:Lit}(h:keyOf P k v=some l):MapKept.IsKey (.int .i64) v:=by
 rw[keyOf_int b]at h;obtain⟨d,a,h1,_⟩:=mapKey_isKey h;rw[b]at a;cases a;exact h1
def Gh{H:Type}:∀{xs ys:List Int},(lits (H:=H) .i64 xs)=lits .i64 ys->xs=ys
 |[],[],_=>rfl
 |[],_::_,h=>by cases h
 |_::_,[],h=>by cases h
 |x::xs,y::ys,h=>by
  unfold lits at h;simp only[aN,ei,DataW.lit.injEq,Lit.int.injEq,true_and]at h;obtain⟨rfl,h2⟩:=h;have:=Gh (H:=H) (xs:=xs) (ys:=ys) h2;rw[this]
def YY{a b:Value}{w w':World}(h:(Result.ok a w:Result Value)=.ok b w'):a=b:=by cases h;rfl
def Bt{W:World}{B:List (String×DataW Unit)}(h:laidMet prog (("monocle/surface.places",Rows.laid_monocle_surface_places)::B) W):jY W W:=by
 obtain⟨ps,⟨g0,t0,a6,f0,p0,q0,D,a0,a1,R,_,_⟩,_,_⟩:=h;obtain rfl:=aE (Qe.symm.trans D);obtain rfl:=aE (Qf.symm.trans a0)
 have zero:(zeroValue 109).run prog W=.ok (.slice none 0 0) W:=by kernel_rfl
 obtain ⟨_,f⟩|⟨K,E,p,m,_,Q,hb,_,F,f⟩:=WideElems.open_map underlying309 R
 .cases f
 simp only[dK]at f
 have e:W.cell? (J 7)=some (.map (some K)):=by
  have:=World.var?_cell D a1 0;rw[Array.eq_one_of_toList Q]at this;simpa using this
 have M:=(vJ e).2;refine⟨K,e,M,TK hb,E,p,hb,?_⟩
 have d:∀k:Int,(Lit.int .i64 k).wf=true-> ∀zs:List Int,(Rows.laid_monocle_surface_places (H:=Unit)).atKey (.int .i64 k) .nil=.slice (lits .i64 zs) []-> ∃i a n c,Instr.findNow (.int .i64) (.int .i64 k) E.toList 0=some (some (i,.slice a n c))/\IR W W 1 a n c zs:=by
  intro k a2 zs g;have o:=keyOf_int_mk (P:=prog) underlying3 a2
  obtain ⟨_,_,hat⟩|⟨e0,y,v,S,z,s,hat,_⟩:=fit_look (w:=W) false (int_keyed underlying3) underlying309 zero hb F o
  .have:=hat .nil
   rw[<- f.1,g]at this;cases this
  .have r:=hat .nil
   rw[<- f.1,g]at r
   rcases MapKept.findNow_spec (OV underlying3 o) E.toList 0 (fun x f=>by
    obtain⟨l,hl⟩:=F.keys x f
    exact OV underlying3 hl)with⟨_,X⟩|⟨j,e1,hf,_,a8⟩
   .exact absurd S (X e0 v)
   .have q:=tL underlying309 underlying3 hb hf
    have hv:e1.val=e0.val:=by
     have:=q.symm.trans z;simp only[bC,de]at this;exact YY this
    unfold elemAt at s;split at s
    .rename_i hform
     obtain ⟨_,rfl⟩|⟨a,len,cap,xs,t,_,T,_,a3,rfl,b,_⟩:=open_ints underlying109 underlying3 (by kernel_rfl) s
     .cases r
     .have A:=Mv underlying109 hform t
      simp only[DataW.slice.injEq]at r;have h1:=Gh r.1
      have h2:xs.drop len=[]:=by
       have:=r.2;unfold lits at this;exact List.map_eq_nil_iff.1 this.symm
      have a4:xs=zs:=by
       have:=cA len xs;rw[h2,bG]at this;exact this.symm.trans h1.symm
      subst a4
      have u:xs.length=len:=by
       have ha:xs.length<=len:=by
        rw[List.drop_eq_nil_iff]at h2;exact h2
       have a7:len<=xs.length:=by rw[a3];split<;>omega
       omega
      refine⟨0+j,some a,len,cap,by rw[hf,hv,A],by rw[u,dn],T,fun a5=>?_⟩;have C:=b 0 (by omega)
      have N:a.add 0=a:=by simp[Addr.add]
      rw[N]at C;obtain⟨L,hlt⟩:=vJ C;refine⟨a.block,a.off,by rw[<- L],hlt,fun j hj=>?_⟩;have:=b j (by omega);rw[L,fC]at this;exact this
    .cases s
 intro k h1 h4
 have hk:k=1\/k=2\/k=3\/k=4:=by omega
 obtain rfl|rfl|rfl|rfl:=hk
 .exact d 1 rfl [1,2,5,6,7,8,10] rfl
 .exact d 2 rfl [1,2,3,4,10] rfl
 .exact d 3 rfl [11,12,13,14,15] rfl
 .exact d 4 rfl [1,10] rfl
instance:DecidableEq jd:=fun x y=>decidable_of_iff (x.nm=y.nm/\x.zs=y.zs) (by cases x;cases y;simp)
def WU{α:Type}{l l':List α}{n:Nat}(h1:l.length=n)(h2:l'.length=n)(h:∀i,i<n->l[i]? =l'[i]?):l=l':=by
 apply List.ext_getElem?;intro i;by_cases hi:i<n
 .exact h i hi
 .rw[bz (by omega),bz (by omega)]
def X9{p0 p1 c a b d:Int}(h:¬(p0=a/\p1=b/\c=d)):¬p0=a\/(p0=a/\ ¬p1=b)\/(p0=a/\p1=b/\ ¬c=d):=by omega
def WE(l l':List jd)(a b:Option Addr)(n c m d:Nat)(w:World)(h1:RR oB 2 (fun b=>b<w.heap.size) w a n c l)(h2:RR oB 2 (fun b=>b<w.heap.size) w b m d l')(hn:n<=1000000)(hm:m<=1000000):
 Calls prog 83 #[Z a n c,Z b m d] w (iZ w (.bool (decide (l=l')))):=by
 generalize hD:decide (l=l')=D;have X:=O (show¬l=l'->D=false from fun h=>by rw[<- hD];exact aw h);have HT:=O (show l=l'->D=true from fun h=>by rw[<- hD];exact aP h)
 have lx:l.length=n:=by have:=h1.1;omega
 have ly:l'.length=m:=by have:=h2.1;omega
 have Lx:=O lx;have Ly:=O ly;have H1:=O h1;have H2:=O h2;clear h1 h2 hD lx ly;go_enter func83,ntmps83;by_cases M:n=m
 .subst M
  go_wp2
  go_loopw [5] (fun q wr=>∃k:Nat,k<=n/\q=.int .i64 (k:Int)/\(∀i,i<k->l[i]? =l'[i]?)/\Below w w wr) (fun q _=>n-(intOf q).toNat)
  case atStart=>exact⟨0,aA _,rfl,fun i hi=>by omega,TH _ _⟩
  case round=>
   obtain⟨k,hk,rfl,Hp:HQ _,Hb:HQ _⟩:=hrel;by_cases K:k<n
   .obtain⟨b1,o1,y,cs,rfl,l1,E,⟨a2,s,c2,rfl,x,b0,-,a9⟩,T⟩:=(H1.go ky Hb).at K
    obtain⟨b2,o2,o,a8,rfl,l2,v,⟨a3,n3,c3,rfl,z,b5,-,-⟩,u⟩:=(H2.go ky Hb).at K;have P:=O (show y.zs.length=s*3 from x.1);have L3:=O (show o.zs.length=n3*3 from z.1);have x0:=T 0 _ rfl;have x1:=T 1 _ rfl;have z0:=u 0 _ rfl;have W:=u 1 _ rfl;rw[bE]at x0 z0;have a4:=O (x.ir (fun _ h=>h));have a5:=O (z.ir (fun _ h=>h));have X1:=O x1;have Z1:=O W;have t:=O (show¬y=o->D=false from fun h=>X (fun e=>h (by rw[e,v]at E;exact(aE E).symm)));have a0:=O (show y=o->l[k]? =l'[k]? from fun h=>by rw[E,v,h]);clear T u x z E v;by_cases g:y.nm=o.nm
    .by_cases N:s=n3
     .subst N
      go_wp2_with fail
      go_quiet (fail)
      go_wp2
      go_loopw [6] (fun q wq=>∃j:Nat,j<=s/\q=.int .i64 (j:Int)/\(∀i,i<j*3->y.zs.getD i 0=o.zs.getD i 0)/\Below wr wr wq) (fun q _=>s-(intOf q).toNat)
      case atStart=>exact⟨0,aA _,rfl,fun i hi=>by omega,gV (TH _ _) _⟩
      case round=>
       obtain⟨j,hj,rfl,Hq:HQ _,Hb2:HQ _⟩:=hrel;clear x0 x1 z0 W;have x1:=(Hb2.cell (p:=⟨b1,o1+k*2+1,none⟩) l1).trans X1;have W:=(Hb2.cell (p:=⟨b2,o2+k*2+1,none⟩) l2).trans Z1;by_cases H:j<s
       .obtain⟨b3,o3,rfl,l3,p0,p1,p2⟩:=(a4.go Hb2).at3 H
        obtain⟨b4,o4,rfl,l4,q0,q1,q2⟩:=(a5.go Hb2).at3 H;generalize hv0:y.zs.getD (j*3) 0=v0 at*;generalize hv1:y.zs.getD (j*3+1) 0=v1 at*;generalize hv2:y.zs.getD (j*3+2) 0=v2 at*;generalize hu0:o.zs.getD (j*3) 0=u0 at*;generalize hu1:o.zs.getD (j*3+1) 0=u1 at*;generalize hu2:o.zs.getD (j*3+2) 0=u2 at*;have F:=O (show(y.zs.getD (j*3) 0=v0/\y.zs.getD (j*3+1) 0=v1/\y.zs.getD (j*3+2) 0=v2)/\(o.zs.getD (j*3) 0=u0/\o.zs.getD (j*3+1) 0=u1/\o.zs.getD (j*3+2) 0=u2)from⟨⟨hv0,hv1,hv2⟩,hu0,hu1,hu2⟩);clear hv0 hv1 hv2 hu0 hu1 hu2;by_cases r:v0=u0/\v1=u1/\v2=u2
        .obtain⟨rfl,rfl,rfl⟩:=r
         go_wp2_with fail
         go_quiet (fail)
         go_wp2
         go_roundw
         case rel=>
          refine⟨j+1,by omega,by go_num,fun i hi=>?_,gV Hb2 _⟩;obtain⟨⟨B,C,g2⟩,Q,R,S⟩:=F;by_cases a6:i<j*3
          .exact Hq i a6
          .obtain rfl|rfl|rfl:i=j*3\/i=j*3+1\/i=j*3+2:=by omega
           .rw[B,Q]
           .rw[C,R]
           .rw[g2,S]
         case measure=>simp[intOf];omega
        .have f:=O (t (fun h=>r (by obtain⟨⟨B,C,g2⟩,Q,R,S⟩:=F;rw[h]at B C g2;exact⟨B.symm.trans Q,C.symm.trans R,g2.symm.trans S⟩)))
         obtain h0|⟨h0,h1⟩|⟨h0,h1,h2⟩:=X9 r
         .clear r
          go_wp2_with fail
          go_quiet (fail)
          go_wp2;go_ret;exact⟨by rw[f];rfl,I Hb (gV Hb2 _)⟩
         .subst h0
          clear r;go_wp2_with fail
          go_quiet (fail)
          go_wp2;go_ret;exact⟨by rw[f];rfl,I Hb (gV Hb2 _)⟩
         .subst h0 h1
          clear r;go_wp2_with fail
          go_quiet (fail)
          go_wp2;go_ret;exact⟨by rw[f];rfl,I Hb (gV Hb2 _)⟩
       .obtain rfl:j=s:=by omega
        have A:=Ww (P.trans L3.symm) (fun i hi=>Hq i (by rw[<- P];exact hi));have a1:=O (a0 (by cases y;cases o;simp only at g A;rw[g,A]));clear A;go_wp2
        go_roundw
        case rel=>
         refine⟨k+1,by omega,by go_num,fun i hi=>?_,I Hb Hb2⟩;by_cases a7:i<k
         .exact Hp i a7
         .obtain rfl:i=k:=by omega
          exact a1
        case measure=>simp[intOf];omega
     .have f:=O (t (fun h=>N (by have:=P.out;have:=L3.out;rw[h]at*;omega)))
      go_wp2_with fail
      go_quiet (fail)
      go_wp2;go_ret;exact⟨by rw[f];rfl,gV Hb _⟩
    .have f:=O (t (fun h=>g (by rw[h])))
     have L:¬y.nm.toList=o.nm.toList:=fun h=>g (WI h)
     go_wp2_with fail
     go_quiet (fail)
     go_wp2;go_ret;exact⟨by rw[f];rfl,gV Hb _⟩
   .obtain rfl:k=n:=by omega
    have f:=O (HT (WU Lx Ly Hp));go_wp2;go_ret;exact⟨by rw[f];rfl,Hb⟩
 .have f:=O (X (fun h=>M (by have:=Lx.out;have:=Ly.out;rw[h]at*;omega)))
  go_wp2;go_ret;exact⟨by rw[f];rfl,TH _ _⟩
