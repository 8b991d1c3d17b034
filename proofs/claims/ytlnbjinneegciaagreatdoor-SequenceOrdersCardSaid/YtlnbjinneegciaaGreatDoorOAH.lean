import Derived.Test.YtlnbjinneegciaaGreatDoorOAE
import Derived.Test.YtlnbjinneegciaaGreatDoorOAD
import Derived.Deep.Light
namespace Go.Proofs.YtlnbjinneegciaaGreatDoor
set_option linter.all false
set_option maxRecDepth 100000
set_option maxHeartbeats 3200000
open Go.Proofs.Tryz Go.RowKit
def mT(s:gW):Bool:=(s.i5==0)&& (s.cm==0)
def qw(s:gW):Bool:=decide ([s.a0,s.a1,s.a2,s.a3]=[0,0,0,0])&&decide ([s.p0,s.p1]=[0,0])&& (s.order==0)
def kK(s:gW):Bool:=(s.dx==0)&& (s.dy==0)&& (s.ax==0)&& (s.ay==0)&& (s.az==0)
def xN(s:gW)(n:Nat):Bool:=s.e9.toList.isEmpty&&decide (n=0)
def rM(s:gW)(n:Nat):Bool:=
 if s.kind=1 then(if s.order=0\/kT s.e9=true then mT s&&kK s&&decide (s.order=0)&&decide ([s.p0,s.p1]=[0,0])else mT s&&kK s)
 else if s.kind=2 then qw s&&kK s
 else if s.kind=3 then mT s&&qw s&&xN s n&&decide (s.t8=0)&&decide (s.r9=0)&&decide (s.i6=0)&&decide (s.i7=0)
 else if s.kind=4 then mT s&&qw s&&kK s&&xN s n&&decide (s.r9=0)
 else false
def tJ(s:gW)(zs:List Int)(n:Nat):Bool:=nX s zs n&&rM s n
def Sn(s:gW)(w:World):(Op.equalIn 10000 60 (.agg #[s.a0,s.a1,s.a2,s.a3]) (.agg #[oZ,oZ,oZ,oZ])).run prog w=.ok (decide ([s.a0,s.a1,s.a2,s.a3]=[0,0,0,0])) w:=
 sk 9998 (n:=4) (k':=.i64) underlying60 (by kernel_rfl) underlying3 (by kernel_rfl) [s.a0,s.a1,s.a2,s.a3] [0,0,0,0] rfl rfl w
def Qx(s:gW)(w:World):(Op.equalIn 10000 61 (.agg #[s.p0,s.p1]) (.agg #[oZ,oZ])).run prog w=.ok (decide ([s.p0,s.p1]=[0,0])) w:=
 sk 9998 (n:=2) (k':=.i64) underlying61 (by kernel_rfl) underlying3 (by kernel_rfl) [s.p0,s.p1] [0,0] rfl rfl w
def J9(s:gW)(zs:List Int)(a:Option Addr)(n c:Nat)(w:World)(x:IR w w 3 a n c zs)(t:n<=1000000)(r:s.e9.size<=9223372036854775807):
 Calls prog 43 #[.agg (⟨s,a,n,c⟩:jt)] w (iZ w (.bool (tJ s zs n))):=by
 have i:=O (Y.new w s a n c);have f:=O ((TH w w).alloc (aa _) (.cells (⟨s,a,n,c⟩:jt) 64));have m:=O x;clear x
 cases hs:nX s zs n with
 |false=>
  have j:=O hs;clear hs;go_enter func43,ntmps43
  go_wp2_with(first
   |(refine gO i rfl (.tmp 1) rfl rfl ?_)
   |((with_reducible refine(zm s zs a n c _ (m.out.go f.out) t r).mono ?_);rintro e w2 ⟨l,g⟩;rw[j]at l;subst l))
  go_ret;exact⟨by unfold tJ;rw[j];rfl,I f g⟩
 |true=>
  have j:=O hs;clear hs;go_enter func43,ntmps43
  go_upto_region 3 with(first
   |(refine gO i rfl (.tmp 1) rfl rfl ?_)
   |((with_reducible refine(zm s zs a n c _ (m.out.go f.out) t r).mono ?_);rintro e w2 ⟨l,g⟩;rw[j]at l;subst l))
  refine gI (fun d=>Y d w s a n c/\Below w w d) ⟨Y.go i g (by simp),I f g⟩ ?_;clear g i m f;rintro w3 ⟨h1,g⟩;have p:=O g;have i:=O h1;clear g h1;obtain⟨k0,k1,k2,k3,k4,k5,k6,k7,k8,k9,y,z,A,B,C,D,E,F,H,K,L,M⟩:=i.cells
  go_cut [3] (fun v d=>v=.bool (mT s)/\d=w3)
  case first=>
   cases q1:(s.i5==0) <;>cases q2:(s.cm==0)
   all_goals
    go_wp2;go_meet;exact⟨by unfold mT;rw[q1,q2];rfl,rfl⟩
  case rest=>
   obtain⟨rfl,rfl⟩:=hcut;go_upto_region 4 with fail
   go_cut [4] (fun v d=>v=.bool (qw s)/\d=wc)
   case first=>
    have e4:=Sn s wc;have o:=Qx s wc;cases q1:decide ([s.a0,s.a1,s.a2,s.a3]=[0,0,0,0]) <;>cases q2:decide ([s.p0,s.p1]=[0,0]) <;>cases k:(s.order==0)
    all_goals
     rw[q1]at e4;rw[q2]at o;have N:=O q1;have P:=O q2;clear q1 q2;go_wp2;go_meet;exact⟨by unfold qw;rw[N,P,k];rfl,rfl⟩
   case rest=>
    obtain⟨rfl,rfl⟩:=hcut;go_upto_region 5 with fail
    go_cut [5] (fun v d=>v=.bool (kK s)/\d=wc)
    case first=>
     cases q1:(s.dx==0) <;>cases q2:(s.dy==0) <;>cases k:(s.ax==0) <;>cases q4:(s.ay==0) <;>cases q5:(s.az==0)
     all_goals
      go_wp2;go_meet;exact⟨by unfold kK;rw[q1,q2,k,q4,q5];rfl,rfl⟩
    case rest=>
     obtain⟨rfl,rfl⟩:=hcut;go_upto_region 6 with fail
     go_cut [6] (fun v d=>v=.bool (xN s n)/\d=wc)
     case first=>
      cases q1:s.e9.toList.isEmpty<;>cases q2:((n:Int)==0)
      all_goals
       have k:decide (n=0)=((n:Int)==0):=by rw[bJ];simp
       have Q:=O k;clear k;go_wp2;go_meet;exact⟨by unfold xN;rw[q1,Q,q2];rfl,rfl⟩
     case rest=>
      obtain⟨rfl,rfl⟩:=hcut;have o:=Qx s wc
      have hx:∀b,mT s=b->b=mT s:=fun b h=>h.symm
      generalize hx1:mT s=x1 at*;generalize hx2:qw s=x2 at*;generalize hx3:kK s=x3 at*;generalize hx4:xN s n=x4 at*;generalize hx5:decide ([s.p0,s.p1]=[0,0])=x5 at*;have R:=O hx1;have S:=O hx2;have T:=O hx3;have W:=O hx4;have X:=O hx5
      have u:tJ s zs n=(if s.kind=1 then(if s.order=0\/kT s.e9=true then x1&&x3&&decide (s.order=0)&&x5 else x1&&x3)
       else if s.kind=2 then x2&&x3
       else if s.kind=3 then x1&&x2&&x4&&decide (s.t8=0)&&decide (s.r9=0)&&decide (s.i6=0)&&decide (s.i7=0)
       else if s.kind=4 then x1&&x2&&x3&&x4&&decide (s.r9=0)
       else false):=by
       unfold tJ rM;rw[j,hx1,hx2,hx3,hx4,hx5];rfl
      have q:=O u;clear hx1 hx2 hx3 hx4 hx5 hx u;go_wp2
      all_goals
       go_ret;refine⟨?_,p⟩;rw[q];clear q R S T W X p k0 k1 k2 k3 k4 k5 k6 k7 k8 k9 y z A B C D E F H K L M o j;go_light
       simp_all [kT]
       all_goals rw[bJ];simp
def MP(s:gW)(zs:List Int)(n:Nat):(sm s&&sr s n)=(uU s&&uV s&&uW s&&xI s&&rI s&&decide (n<=8)):=by
 cases h6:rI s
 .unfold sr;rw[h6];simp
 .unfold sr;rw[h6]
  rw[bJ];unfold sm uU uV uW xI;simp only[jr,eN,List.any_nil,Bool.or_false,am,di,Bool.or_eq_false_iff,dQ,aD,dN,Bool.and_true];omega
def qz(g:ByteArray):g.toList.isEmpty=true↔g=ik:=by
 constructor
 .intro h
  have h1:g.toList=[]:=by simpa using h
  have:g.data.toList=[]:=by rw[ByteArray.toList_eq]at h1;exact h1
  cases g with
  |mk d=>
   have:d=#[]:=by apply fU;simpa using this
   subst this;rfl
 .intro h;subst h;rw[ByteArray.toList_eq];rfl
def Jo(s:gW)(zs:List Int)(n:Nat)(d:zs.length=n*3):rM s n=rK s zs:=by
 have c:zs=[]↔n=0:=by
  constructor
  .intro h;subst h;simp at d;omega
  .intro h;subst h;exact aX.1 (by rw[d])
 have a:=qz s.e9;obtain⟨kind,t8,r9,i5,cm,a0,a1,a2,a3,p0,p1,order,tx,e9,i6,i7,dx,dy,ax,ay,az⟩:=s;rw[bJ];unfold rK rM mT qw kK xN rJ;simp only at a⊢;by_cases h1:kind=1
 .subst h1
  cases hm:kT e9<;>by_cases e:order=0
  all_goals
   simp[jr,hm,e,gW.mk.injEq]
  all_goals try omega
 .by_cases h2:kind=2
  .subst h2
   simp[jr,gW.mk.injEq];omega
  .by_cases h3:kind=3
   .subst h3
    simp[jr,gW.mk.injEq,c]at a⊢;rw[a];constructor<;>intro h<;>simp_all
   .by_cases b:kind=4
    .subst b
     simp[jr,gW.mk.injEq,c]at a⊢;rw[a];constructor<;>intro h<;>simp_all
    .simp[h1,h2,h3,b,jr]
     omega
def Eu(s:gW)(zs:List Int)(n:Nat):uX s zs n=(rK s zs&& (uU s&& (uV s&& (uW s&& (xI s&& (rI s&& (decide (n<=8)&&true))))))):=rfl
def zq(s:gW)(zs:List Int)(n:Nat)(g:zs.length=n*3):tJ s zs n=oA s zs n:=by
 have h:=MP s zs n;unfold tJ nX oA;rw[Eu,Jo s zs n g];rw[bJ]at h⊢;simp only[am]at h⊢;constructor
 .rintro⟨⟨⟨a,f⟩,c⟩,t⟩
  obtain⟨⟨⟨⟨⟨h2,h3⟩,b⟩,h5⟩,d⟩,e⟩:=h.1 ⟨a,c⟩;exact⟨⟨t,h2,h3,b,h5,d,e,trivial⟩,f⟩
 .rintro⟨⟨t,h2,h3,b,h5,d,e,_⟩,f⟩
  obtain⟨a,c⟩:=h.2 ⟨⟨⟨⟨⟨h2,h3⟩,b⟩,h5⟩,d⟩,e⟩;exact⟨⟨⟨a,f⟩,c⟩,t⟩
def lN(s:gW)(zs:List Int)(a:Option Addr)(n c:Nat)(w:World)(b:IR w w 3 a n c zs)(e:n<=1000000)(d:s.e9.size<=9223372036854775807):
 Calls prog 43 #[.agg (⟨s,a,n,c⟩:jt)] w (iZ w (.bool (oA s zs n))):=by
 rw[<- zq s zs n b.1];exact J9 s zs a n c w b e d
def kM:Nat->ByteArray
 |0=>ik
 |1=>⟨#[66,75,55]⟩
 |2=>⟨#[83,70,45,49]⟩
 |3=>⟨#[77,73,82,82,79,82]⟩
 |_=>⟨#[102,95,50]⟩
def qE(k:Nat)(a:k<5):((kM k).toList.isEmpty||kI (kM k))=true:=by
 match k,a with
 |0,_=>rw[(qz (kM 0)).2 rfl];rfl
 |1,_=>rw[show kI (kM 1)=true by decide+kernel];simp
 |2,_=>rw[show kI (kM 2)=true by decide+kernel];simp
 |3,_=>rw[show kI (kM 3)=true by decide+kernel];simp
 |4,_=>rw[show kI (kM 4)=true by decide+kernel];simp
def lD(k:Nat):(kM k).size<=9223372036854775807:=by
 match k with
 |0=>decide
 |1=>decide
 |2=>decide
 |3=>decide
 |k+4=>show(ByteArray.mk #[102,95,50]).size<=_;decide
structure SB (s:gW):Prop where
 t8: -1000000000<=s.t8/\s.t8<=1000000000
 i5: -1000000000<=s.i5/\s.i5<=1000000000
 r9: -100000000<=s.r9/\s.r9<=100000000
 cm: -100000000<=s.cm/\s.cm<=100000000
 a0: -1000000000<=s.a0/\s.a0<=1000000000
 a1: -1000000000<=s.a1/\s.a1<=1000000000
 a2: -1000000000<=s.a2/\s.a2<=1000000000
 a3: -1000000000<=s.a3/\s.a3<=1000000000
 p0: -1000000000<=s.p0/\s.p0<=1000000000
 p1: -1000000000<=s.p1/\s.p1<=1000000000
 order: -3<=s.order/\s.order<=3
 tx: -1000000000<=s.tx/\s.tx<=1000000000
 i6:0<=s.i6/\s.i6<=1000000000
 i7:0<=s.i7/\s.i7<=1000000000/\(s.i6=0\/s.i7<s.i6)
 dx: -1000000000<=s.dx/\s.dx<=1000000000
 dy: -1000000000<=s.dy/\s.dy<=1000000000
 ax: -90000000<=s.ax/\s.ax<=90000000
 ay: -90000000<=s.ay/\s.ay<=90000000
 az: -90000000<=s.az/\s.az<=90000000
 e9:(s.e9.toList.isEmpty||kI s.e9)=true
def mY{lo hi z:Int}(h:lo<=z/\z<=hi):jr lo hi [z]=false:=by simp[jr];omega
def zP{s:gW}{zs:List Int}{n:Nat}(d:zs.length=n*3)(e:n<=8)(hf:(List.range n).all (mP zs)=true)(h:SB s)(c:rM s n=true):oA s zs n=true:=by
 rw[<- zq s zs n d];unfold tJ nX
 have a:sm s=true:=by
  unfold sm;rw[nY _ _ s.a0,nY _ _ s.a1,nY _ _ s.a2,mY h.a0,mY h.a1,mY h.a2,mY h.a3];rfl
 have b:sr s n=true:=by
  unfold sr rI;rw[mY h.t8,mY h.i5,mY h.r9,mY h.cm,mY h.p0,mY h.p1,mY h.tx,mY h.dx,mY h.dy,mY h.ax,mY h.ay,mY h.az,h.e9];have h1:=h.i6;have h2:=h.i7;have h3:=h.order;simp;omega
 rw[a,hf,b,c];rfl
def mR:gW:=⟨0,0,0,0,0,0,0,0,0,0,0,0,0,ik,0,0,0,0,0,0,0⟩
def Tryz.infoDrS:(prog.info? 124).map (·.size)=some 22:=by kernel_rfl
def wu{ops:Array Oper}{d:List Oper}{e:Oper}{f:Act}{w:World}{Q:Exit->Act->World->Prop}{b o:Nat}{x:tz}{a:Option Addr}{n c:Nat}(h:w.rangeAt b o (pg x a n c))(g:e.guard=none)(y:Operand)(j:e.op=.load 124 y)
 (k:f.eval y=.pointer (some ⟨b,o,none⟩))(i:wpList prog ops Q d (f.put e.dst (Rf x a n c)) w):wpList prog ops Q (e::d) f w:=
 wpList_load_mid g 124 y j b o k (pg x a n c) _ h underlying124 rfl Tryz.infoDrS i
def EV(w:World):Calls prog 77 #[] w (fun e w'=>e=.returned (.slice (J (w.heap.size)) 5 5)/\(∀k,k<5->w'.cell? ⟨w.heap.size,k,none⟩=some (.string (kM k)))/\w.heap.size<w'.heap.size/\Below w w w'):=by
 go_enter func77,ntmps77;go_wp2;go_ret;refine⟨rfl,fun k a=>?_,by simp,gY (TH _ _)⟩;rw[World.cell?_alloc_at _ _ _ _ rfl]
 match k,a with
 |0,_=>rfl
 |1,_=>rfl
 |2,_=>rfl
 |3,_=>rfl
 |4,_=>rfl
structure D9 (w:World) (x:tz) (a:Option Addr) (n c:Nat) (g:Nat) (s:gW) (zs:List Int) (ca:Option Addr) (cn cc:Nat) (wx:World):Prop where
 d:Bj wx w x a n c
 z:wx.heap[w.heap.size+1]? =some (.cells zS 64 (0,0))
 s:Y wx g s ca cn cc
 gt:w.heap.size+1<g
 b:Below w w wx
 f:jN (fun b=>w.heap.size<=b/\b<wx.heap.size/\b≠w.heap.size+1/\b≠g) wx ca cn cc zs
 cc:ca=none->cc=0
def D9.set{w:World}{x:tz}{a:Option Addr}{n c:Nat}{g:Nat}{s:gW}{zs:List Int}{j:Option Addr}{cn cc:Nat}{e:World}(h:D9 w x a n c g s zs j cn cc e)(i:Nat)(v:Value)(s':gW)(m:Y (e.setCell ⟨g,i,none⟩ v) g s' j cn cc):
 D9 w x a n c g s' zs j cn cc (e.setCell ⟨g,i,none⟩ v):=by
 have k:gN (fun b=>b≠g) e (e.setCell ⟨g,i,none⟩ v):=gK g [v] i e;have o:(e.setCell ⟨g,i,none⟩ v).heap.size=e.heap.size:=im g [v] i e;have q:=h.gt;exact⟨(k _ (by omega)).trans h.d,(k _ (by omega)).trans h.z,m,h.gt,h.b.setCell (p:=⟨g,i,none⟩) (by show w.heap.size<=g;omega) v,h.f.kept (k.mono (fun b h=>h.2.2.2)) (fun b l=>by rw[o];exact l),h.cc⟩
def D9.t9{w:World}{x:tz}{a:Option Addr}{n c:Nat}{g:Nat}{s:gW}{zs m:List Int}{t e:Option Addr}{cn cc i f:Nat}{l j:World}(h:D9 w x a n c g s zs t cn cc l)(k:Below l l j)
 (hf:jN (fun b=>l.heap.size<=b/\b<j.heap.size) j e i f m)(u:e=none->f=0):D9 w x a n c g s m e i f (j.setCell ⟨g,21,none⟩ (.slice e i f)):=by
 have o:gN (fun b=>b≠g) j (j.setCell ⟨g,21,none⟩ (.slice e i f)):=gK g [Z e i f] 21 j;have v:(j.setCell ⟨g,21,none⟩ (.slice e i f)).heap.size=j.heap.size:=im g [Z e i f] 21 j;have A:=h.gt;have hgl:=h.s.lt;have r:=TK h.z;have y:=TK h.d;refine⟨(o _ (by omega)).trans (h.d.go k),(o _ (by omega)).trans ((k.block _ r).trans h.z),Y.t9 (h.s.go k hgl) _ _ _,h.gt,(I h.b k).setCell (p:=⟨g,21,none⟩) (by show w.heap.size<=g;omega) _,hf.kept (o.mono (fun b h=>by have:=h.1;omega)) (fun b q=>?_),u⟩;rw[v];have:=q.1;exact⟨by omega,q.2,by omega,by omega⟩
def D9.put{w:World}{x:tz}{a:Option Addr}{n c:Nat}{g:Nat}{s:gW}{zs:List Int}{i:Option Addr}{cn cc:Nat}{e:World}(h:D9 w x a n c g s zs i cn cc e)(s':gW):D9 w x a n c g s' [] none 0 0 (vS e g s' none 0 0):=by
 have f:gN (fun b=>b≠g) e (vS e g s' none 0 0):=gK g (gX s' none 0 0) 0 e;have j:=h.gt;exact⟨(f _ (by omega)).trans h.d,(f _ (by omega)).trans h.z,Y.stored h.s rfl _ _ _ _,h.gt,Below.put22 h.b (by omega) _ _ _ _,jN.nil _ _,fun _=>rfl⟩
def S9{z:Int}(h:z.tmod 2≠0):z.tmod 4≠0:=fun e=>h (Int.tmod_eq_zero_of_dvd (Int.dvd_trans (by decide:(2:Int)∣ 4) (Int.dvd_of_tmod_eq_zero e)))
def sA(x:tz)(s:gW):Nat->gW
 |0=>s
 |1=>{s with a0:=1000*x.h0}
 |2=>{s with a0:=1000*x.h0,a1:=1000*x.h1}
 |3=>{s with a0:=1000*x.h0,a1:=1000*x.h1,a2:=1000*x.h2}
 |_=>{s with a0:=1000*x.h0,a1:=1000*x.h1,a2:=1000*x.h2,a3:=1000*x.h3}
def jH(x:tz)(mk a:Int)(g:Nat):gW:={mR with kind:=1,t8:=1000*x.c0,r9:=1000*mk,tx:=1000*a,e9:=kM g,i6:=100000*x.i6}
def tz.In.all{x:tz}(h:x.In):(-32768<=x.c0/\x.c0<=32767/\ -32768<=x.c1/\x.c1<=32767)/\(-128<=x.h0/\x.h0<=127/\ -128<=x.h1/\x.h1<=127/\ -128<=x.h2/\x.h2<=127/\ -128<=x.h3/\x.h3<=127)/\(-128<=x.p0/\x.p0<=127/\ -128<=x.p1/\x.p1<=127)/\(0<=x.i6/\x.i6<=255)/\
 (-128<=x.b0/\x.b0<=127/\ -128<=x.b1/\x.b1<=127/\ -128<=x.b2/\x.b2<=127/\ -128<=x.b3/\x.b3<=127/\ -128<=x.b4/\x.b4<=127):=by
 obtain⟨_,⟨_,_⟩,⟨_,_⟩,_,_,⟨_,_⟩,⟨_,_⟩,⟨_,_⟩,⟨_,_⟩,⟨_,_⟩,⟨_,_⟩,_,_,_,⟨_,_⟩,_,⟨_,_⟩,⟨_,_⟩,⟨_,_⟩,⟨_,_⟩,⟨_,_⟩⟩:=h;omega
def Ri{x:tz}(d:x.In){mk a h:Int}{c:Nat}(e: -3000<mk/\mk<3000)(f: -20000<a/\a<20000)(b:c<5)(h0:0<=h)(h1:h=0\/h<100000*x.i6):
 oA {jH x mk a c with i7:=h} [] 0=true:=by
 have g:=d.all;refine zP rfl (by omega) rfl ?_ ?_
 .constructor<;>first|exact qE _ b|(simp only[jH,mR];omega)
 .simp[rM,mT,kK,jH,mR]
def PG{x:tz}(d:x.In){mk a h:Int}{c:Nat}(f: -3000<mk/\mk<3000)(g: -20000<a/\a<20000)(b:c<5)(h0:0<=h)(h1:h=0\/h<100000*x.i6){zs:List Int}{n:Nat}(e:zs.length=n*3)(i:n<=3)(hf:(List.range n).all (mP zs)=true):
 oA (sA x {jH x mk a c with i7:=h} 4) zs n=true:=by
 have j:=d.all;refine zP e (by omega) hf ?_ ?_
 .constructor<;>first|exact qE _ b|(simp only[sA,jH,mR];omega)
 .simp[rM,mT,kK,sA,jH,mR]
def Rj{x:tz}(e:x.In){mk b h a:Int}{d:Nat}(g: -3000<mk/\mk<3000)(f: -3000<a/\a<3000)(i: -20000<b/\b<20000)(c:d<5)(h0:0<=h)(h1:h=0\/h<100000*x.i6):
 oA {jH x mk b d with i7:=h,kind:=2,i5:=1000*x.c1,cm:=1000*a} [] 0=true:=by
 have j:=e.all;refine zP rfl (by omega) rfl ?_ ?_
 .constructor<;>first|exact qE _ c|(simp only[jH,mR];omega)
 .simp[rM,qw,kK,jH,mR]
def wv(x:tz)(a:Int):gW:={mR with kind:=3,tx:=1000*a,dx:=10000*x.b0,dy:=10000*x.b1,ax:=100000*x.b2,ay:=100000*x.b3,az:=100000*x.b4}
def Rk{x:tz}(c:x.In){a:Int}(d: -20000<a/\a<20000):oA (wv x a) [] 0=true:=by
 have e:=c.all;have b:=(qz ik).2 rfl;refine zP rfl (by omega) rfl ?_ ?_
 .constructor<;>first|exact qE 0 (by omega)|(simp only[wv,mR];omega)|(simp[wv,mR])
 .simp[rM,mT,qw,xN,wv,mR,b]
def Cj(x:tz)(a h:Int):gW:={mR with kind:=4,t8:=1000*x.c0,tx:=1000*a,i6:=100000*x.i6,i7:=h}
def Rl{x:tz}(c:x.In){a h:Int}(d: -20000<a/\a<20000)(h0:0<=h)(h1:h=0\/h<100000*x.i6):oA (Cj x a h) [] 0=true:=by
 have e:=c.all;have b:=(qz ik).2 rfl;refine zP rfl (by omega) rfl ?_ ?_
 .constructor<;>first|exact qE 0 (by omega)|(simp only[Cj,mR];omega)
 .simp[rM,mT,qw,kK,xN,Cj,mR,b]
def Rm{x:tz}(g:x.In){mk c h a:Int}{b:Nat}(i: -3000<mk/\mk<3000)(k: -20000<c/\c<20000)(e:b<5)(h0:0<=h)(h1:h=0\/h<100000*x.i6)(j: -4<a/\a<4)(d:a≠0)(f:kT (kM b)=false):
 oA {jH x mk c b with i7:=h,order:=a,p0:=1000*x.p0,p1:=1000*x.p1} [] 0=true:=by
 have l:=g.all;refine zP rfl (by omega) rfl ?_ ?_
 .constructor<;>first|exact qE _ e|(simp only[jH,mR];omega)
 .simp[rM,mT,kK,jH,mR,d,f]
def xh(x:tz):Int:=if x.i7.tmod 4=1/\0<x.i6 then(100000*x.i6).tdiv 4 else 0
def zQ(x:tz):gW:={jH x (x.k0.tmod 3000) (x.tx.tmod 20000) (x.e9.tmod 5).toNat with i7:=xh x}
def oh(x:tz):gM:=
 if x.kind.tmod 8=4 then⟨sA x (zQ x) 4,sI x.t6 (min 3 x.t6.length)⟩
 else if x.kind.tmod 8=5 then⟨{zQ x with kind:=2,i5:=1000*x.c1,cm:=1000*x.k1.tmod 3000},[]⟩
 else if x.kind.tmod 8=6 then⟨wv x (x.tx.tmod 20000),[]⟩
 else if x.kind.tmod 8=7 then
  (if x.order.tmod 2=0 then⟨Cj x (x.tx.tmod 20000) (xh x),[]⟩
   else if kT (kM (x.e9.tmod 5).toNat)=true then⟨zQ x,[]⟩
   else⟨{zQ x with order:=x.order.tmod 4,p0:=1000*x.p0,p1:=1000*x.p1},[]⟩)
 else⟨zQ x,[]⟩
def Rn{x:tz}{mk b h:Int}{a:Nat}(h1:x.k0.tmod 3000=mk)(h2:x.tx.tmod 20000=b)(h3:x.e9.tmod 5=(a:Int))(c:h=xh x):{jH x mk b a with i7:=h}=zQ x:=by
 unfold zQ;rw[h1,h2,h3,c];rfl
def Nn(x:tz)(w:World)(e:Ending)(w':World):Prop:=
 ∃(s:gW)(a:Option Addr)(n c:Nat)(zs:List Int),(⟨s,zs⟩:gM)=oh x/\e=.returned (.agg (⟨s,a,n,c⟩:jt))/\jN (fun b=>w.heap.size<=b/\b<w'.heap.size) w' a n c zs/\(a=none->c=0)/\n<=3/\oA s zs n=true/\s.e9.size<=9223372036854775807/\Below w w w'
def uD{w:World}{x:tz}{a:Option Addr}{n c:Nat}{g:Nat}{s:gW}{zs:List Int}{d:Option Addr}{cn cc:Nat}{e:World}(h:D9 w x a n c g s zs d cn cc e)(m:(⟨s,zs⟩:gM)=oh x)(l:oA s zs cn=true)(k:cn<=3)(i:s.e9.size<=9223372036854775807):
 Nn x w (.returned (.agg (⟨s,d,cn,cc⟩:jt))) (vS e (w+1) s d cn cc):=by
 have j:gN (fun b=>b≠w.heap.size+1) e (vS e (w+1) s d cn cc):=gK (w+1) (gX s d cn cc) 0 e;have o:(vS e (w+1) s d cn cc).heap.size=e.heap.size:=im (w+1) (gX s d cn cc) 0 e;exact⟨s,d,cn,cc,zs,m,rfl,h.f.kept (j.mono (fun b h=>h.2.2.1)) (fun b h=>⟨h.1,by rw[o];exact h.2.1⟩),h.cc,k,l,i,Below.put22 h.b (bY _) _ _ _ _⟩
def No{w:World}{x:tz}{a:Option Addr}{n c:Nat}{g:Nat}{s s':gW}{zs:List Int}{e:Option Addr}{cn cc:Nat}{d:World}(h:D9 w x a n c g s zs e cn cc d)(j:(⟨s',[]⟩:gM)=oh x)(i:oA s' [] 0=true)(f:s'.e9.size<=9223372036854775807):
 Nn x w (.returned (.agg (⟨s',none,0,0⟩:jt))) (vS d (w+1) s' none 0 0):=
 ⟨s',none,0,0,[],j,rfl,jN.nil _ _,fun _=>rfl,by omega,i,f,Below.put22 h.b (bY _) _ _ _ _⟩
def Bj.range{w:World}{g:Nat}{x:tz}{a:Option Addr}{n c:Nat}(h:Bj w g x a n c):w.rangeAt g 0 (pg x a n c):=by
 intro j v b;rw[VV h];simpa using b
def bt(n b a:Int):Bool:=decide (b<=n)&&decide (n<=a)
def jc(n c a:Int)(w:World):Calls prog 88 #[n,c,a] w (iZ w (.bool (bt n c a))):=by
 go_enter func88,ntmps88;go_wp2
 all_goals
  go_ret;refine⟨ai (fun b=>Ending.returned (Value.bool b)) ?_,TH _ _⟩;rw[bJ];simp[bt] <;>omega
def ix(n c a:Int)(w:World):Calls prog 72 #[n,c,a] w (iZ w (.bool (bt n c a))):=by
 go_enter func72,ntmps72;go_wp2
 all_goals
  go_ret;refine⟨ai (fun b=>Ending.returned (Value.bool b)) ?_,TH _ _⟩;rw[bJ];simp[bt] <;>omega
def pM(s:gW)(n:Nat):Bool:=decide (s.kind=1)&&s.e9.toList.isEmpty&&decide (s.tx=0)&&decide (s.order=0)&&decide (n=0)
def BU(s:gW)(a:Option Addr)(n c:Nat)(w:World):Calls prog 124 #[.agg (⟨s,a,n,c⟩:jt)] w (iZ w (.bool (pM s n))):=by
 have d:=O (Y.new w s a n c);have b:=O ((TH w w).alloc (aa _) (.cells (⟨s,a,n,c⟩:jt) 64));go_enter func124,ntmps124;go_upto_region 1 with fail;refine gI (fun j=>Y j w s a n c/\Below w w j) ⟨d,b⟩ ?_;clear d b;rintro k ⟨h1,e:HQ _⟩;obtain⟨k0,_,_,_,_,_,_,_,_,_,_,f,g,h,_,_,_,_,_,_,_,i⟩:=h1.cells;clear h1;cases q1:(s.kind==1) <;>cases q2:s.e9.toList.isEmpty<;>cases q3:(s.tx==0) <;>cases q4:(s.order==0) <;>cases q5:((n:Int)==0)
 all_goals
  go_wp2;go_ret;refine⟨?_,e⟩;clear e k0 f g h i;simp[pM,q2]at*
  try omega
def tr(x:gM):Bool:=oA x.s x.zs (x.zs.length/3)
def mU{S:Nat->Prop}{w:World}{a:Option Addr}{n c:Nat}{zs:List Int}(h:IRp S w 3 a n c zs):n=zs.length/3:=by rw[h.1];omega
def Pk(x:gM)(a:Option Addr)(n c:Nat)(w:World)(f:IR w w 3 a n c x.zs)(m:n<=1000000)(l:x.s.e9.size<=9223372036854775807):
 Calls prog 121 #[.agg (⟨x.s,a,n,c⟩:jt)] w (iZ w (.bool (!tr x))):=by
 have d:tr x=oA x.s x.zs n:=by unfold tr;rw[<- mU (S:=fun _=>True) (f.irp (fun _ _=>trivial))]
 have i:=O (Y.new w x.s a n c);have j:=O f;have h:=O d;clear f d;go_enter func121,ntmps121;cases ho:oA x.s x.zs n
 all_goals
  have g:=O ho;clear ho
  go_wp2_with(first
   |(refine gO i rfl (.tmp 1) rfl rfl ?_)
   |((with_reducible refine(nC x.s x.zs a n c _ (j.out.go ((TH _ _).alloc (aa _) _)) m l).mono ?_);rintro e o ⟨b,k⟩;rw[g]at b;unfold err at b;simp only[bX,de,bC]at b;subst b))
  go_ret;exact⟨by rw[h,g];rfl,I (gY (TH _ _)) k⟩
