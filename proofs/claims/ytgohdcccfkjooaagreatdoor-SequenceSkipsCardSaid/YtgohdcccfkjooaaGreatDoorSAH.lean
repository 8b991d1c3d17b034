import Derived.Test.YtgohdcccfkjooaaGreatDoorSAF
import Derived.Deep.Light
import Derived.LaidMore
import Derived.Stop.Joined
namespace Go.Proofs.YtgohdcccfkjooaaGreatDoor
set_option linter.all false
set_option maxRecDepth 100000
set_option maxHeartbeats 3200000
open Go.Proofs.Tryz Go.RowKit Go.ChangeShapes Go.WideShapes Go.ChangeAt Go.WideElems Go.Maps
def mT(s:gW):Bool:=(s.t6==0)&& (s.t7==0)
def qw(s:gW):Bool:=decide ([s.a0,s.a1,s.a2,s.a3]=[0,0,0,0])&&decide ([s.p0,s.p1]=[0,0])&& (s.order==0)
def kK(s:gW):Bool:=(s.dx==0)&& (s.dy==0)&& (s.ax==0)&& (s.ay==0)&& (s.az==0)
def xN(s:gW)(n:Nat):Bool:=s.i7.toList.isEmpty&&decide (n=0)
def rM(s:gW)(n:Nat):Bool:=
 if s.kind=1 then(if s.order=0\/kT s.i7=true then mT s&&kK s&&decide (s.order=0)&&decide ([s.p0,s.p1]=[0,0])else mT s&&kK s)
 else if s.kind=2 then qw s&&kK s
 else if s.kind=3 then mT s&&qw s&&xN s n&&decide (s.curv=0)&&decide (s.conic=0)&&decide (s.r9=0)&&decide (s.p8=0)
 else if s.kind=4 then mT s&&qw s&&kK s&&xN s n&&decide (s.conic=0)
 else false
def tJ(s:gW)(zs:List Int)(n:Nat):Bool:=nX s zs n&&rM s n
def Sn(s:gW)(w):(Op.equalIn 10000 64 (.agg #[s.a0,s.a1,s.a2,s.a3]) (.agg #[oZ,oZ,oZ,oZ])).run prog w=.ok (decide ([s.a0,s.a1,s.a2,s.a3]=[0,0,0,0])) w:=
 sk 9998 (n:=4) (k':=.i64) underlying64 (by kernel_rfl) underlying3 (by kernel_rfl) [s.a0,s.a1,s.a2,s.a3] [0,0,0,0] rfl rfl w
def Qx(s:gW)(w):(Op.equalIn 10000 65 (.agg #[s.p0,s.p1]) (.agg #[oZ,oZ])).run prog w=.ok (decide ([s.p0,s.p1]=[0,0])) w:=
 sk 9998 (n:=2) (k':=.i64) underlying65 (by kernel_rfl) underlying3 (by kernel_rfl) [s.p0,s.p1] [0,0] rfl rfl w
def J9(s zs a n c)(w:World)(y:IR w w 3 a n c zs)(u:n<=1000000)(t:s.i7.size<=9223372036854775807):
 Calls prog 78 #[.agg (⟨s,a,n,c⟩:jt)] w (iZ w (.bool (tJ s zs n))):=by
 have h1:=Y.new w s a n c;have m:=(TH w w).alloc (aa _) (.cells (⟨s,a,n,c⟩:jt) 70);have i:=O h1;have o:=O y;have f:=O m;clear h1 y m
 cases hs:nX s zs n with
 |false=>
  have j:=O hs;clear hs;go_enter func78,ntmps78
  go_wp2_with(first
   |(refine gO i rfl (.tmp 1) rfl rfl ?_)
   |((with_reducible refine(zm s zs a n c _ (o.out.go f.out) u t).mono ?_);rintro e w2 ⟨l,g⟩;rw[j]at l;subst l))
  go_ret;exact⟨by unfold tJ;rw[j];rfl,I f g⟩
 |true=>
  have j:=O hs;clear hs;go_enter func78,ntmps78
  go_upto_region 3 with(first
   |(refine gO i rfl (.tmp 1) rfl rfl ?_)
   |((with_reducible refine(zm s zs a n c _ (o.out.go f.out) u t).mono ?_);rintro e w2 ⟨l,g⟩;rw[j]at l;subst l))
  refine gI (fun d=>Y d w s a n c/\Below w w d) ⟨Y.go i g (by simp),I f g⟩ ?_;clear g i o f;rintro w3 ⟨h1,g⟩;have q:=O g;have i:=O h1;clear g h1;obtain⟨k0,k1,k2,k3,k4,k5,k6,k7,k8,k9,z,A,B,C,D,E,F,H,K,L,M,N⟩:=i.cells
  go_cut [3] (fun v d=>v=.bool (mT s)/\d=w3)
  case first=>
   cases q1:(s.t6==0) <;>cases q2:(s.t7==0)
   all_goals
    go_wp2;go_meet;exact⟨by unfold mT;rw[q1,q2];rfl,rfl⟩
  case rest=>
   obtain⟨rfl,rfl⟩:=hcut;go_upto_region 4 with fail
   go_cut [4] (fun v d=>v=.bool (qw s)/\d=wc)
   case first=>
    have e4:=Sn s wc;have p:=Qx s wc;cases q1:decide ([s.a0,s.a1,s.a2,s.a3]=[0,0,0,0]) <;>cases q2:decide ([s.p0,s.p1]=[0,0]) <;>cases k:(s.order==0)
    all_goals
     rw[q1]at e4;rw[q2]at p;have P:=O q1;have Q:=O q2;clear q1 q2;go_wp2;go_meet;exact⟨by unfold qw;rw[P,Q,k];rfl,rfl⟩
   case rest=>
    obtain⟨rfl,rfl⟩:=hcut;go_upto_region 5 with fail
    go_cut [5] (fun v d=>v=.bool (kK s)/\d=wc)
    case first=>
     cases q1:(s.dx==0) <;>cases q2:(s.dy==0) <;>cases k:(s.ax==0) <;>cases q4:(s.ay==0) <;>cases q5:(s.az==0)
     all_goals
      go_wp2;go_meet;exact⟨by unfold kK;rw[q1,q2,k,q4,q5];rfl,rfl⟩
    case rest=>
     obtain⟨rfl,rfl⟩:=hcut;go_upto_region 6 with fail
     go_cut [6] (fun v d=>v=.bool (xN s n)/\d=wc)
     case first=>
      cases q1:s.i7.toList.isEmpty<;>cases q2:((n:Int)==0)
      all_goals
       have k:decide (n=0)=((n:Int)==0):=by rw[bJ];simp
       have R:=O k;clear k;go_wp2;go_meet;exact⟨by unfold xN;rw[q1,R,q2];rfl,rfl⟩
     case rest=>
      obtain⟨rfl,rfl⟩:=hcut;have p:=Qx s wc
      have hx:∀b,mT s=b->b=mT s:=fun b h=>h.symm
      generalize hx1:mT s=x1 at*;generalize hx2:qw s=x2 at*;generalize hx3:kK s=x3 at*;generalize hx4:xN s n=x4 at*;generalize hx5:decide ([s.p0,s.p1]=[0,0])=x5 at*;have S:=O hx1;have T:=O hx2;have W:=O hx3;have X:=O hx4;have X5:=O hx5
      have x:tJ s zs n=(if s.kind=1 then(if s.order=0\/kT s.i7=true then x1&&x3&&decide (s.order=0)&&x5 else x1&&x3)
       else if s.kind=2 then x2&&x3
       else if s.kind=3 then x1&&x2&&x4&&decide (s.curv=0)&&decide (s.conic=0)&&decide (s.r9=0)&&decide (s.p8=0)
       else if s.kind=4 then x1&&x2&&x3&&x4&&decide (s.conic=0)
       else false):=by
       unfold tJ rM;rw[j,hx1,hx2,hx3,hx4,hx5];rfl
      have r:=O x;clear hx1 hx2 hx3 hx4 hx5 hx x;go_wp2
      all_goals
       go_ret;refine⟨?_,q⟩;rw[r];clear r S T W X X5 q k0 k1 k2 k3 k4 k5 k6 k7 k8 k9 z A B C D E F H K L M N p j;go_light
       simp_all [kT]
       all_goals rw[bJ];simp
def MP(s)(zs:List Int)(n):(sm s&&sr s n)=(uU s&&uV s&&uW s&&xI s&&rI s&&decide (n<=8)):=by
 cases h6:rI s
 .unfold sr;rw[h6];simp
 .unfold sr;rw[h6]
  rw[bJ];unfold sm uU uV uW xI;simp only[jr,eN,List.any_nil,Bool.or_false,am,di,Bool.or_eq_false_iff,dQ,aD,dN,Bool.and_true];omega
def qz(g):g.toList.isEmpty=true↔g=ik:=by
 constructor
 .intro h
  have h1:g.toList=[]:=by simpa using h
  have:g.data.toList=[]:=by rw[ByteArray.toList_eq]at h1;exact h1
  cases g with
  |mk d=>
   have:d=#[]:=by apply fU;simpa using this
   subst this;rfl
 .intro h;subst h;rw[ByteArray.toList_eq];rfl
def Jo(s zs n)(d:zs.length=n*3):rM s n=rK s zs:=by
 have c:zs=[]↔n=0:=by
  constructor
  .intro h;subst h;simp at d;omega
  .intro h;subst h;exact aX.1 (by rw[d])
 have a:=qz s.i7;obtain⟨kind,curv,conic,t6,t7,a0,a1,a2,a3,p0,p1,order,t8,i7,r9,p8,dx,dy,ax,ay,az⟩:=s;rw[bJ];unfold rK rM mT qw kK xN rJ;simp only at a⊢;by_cases h1:kind=1
 .subst h1
  cases hm:kT i7<;>by_cases e:order=0
  all_goals
   simp[jr,hm,e,gW.mk.injEq]
  all_goals try omega
 .by_cases h2:kind=2
  .subst h2
   simp[jr,gW.mk.injEq];omega
  .by_cases h3:kind=3
   .subst h3
    simp[jr,gW.mk.injEq,c]at a⊢;rw[a];constructor<;>intro h<;>simp_all
   .by_cases b:kind=4
    .subst b
     simp[jr,gW.mk.injEq,c]at a⊢;rw[a];constructor<;>intro h<;>simp_all
    .simp[h1,h2,h3,b,jr]
     omega
def Eu(s zs n):uX s zs n=(rK s zs&& (uU s&& (uV s&& (uW s&& (xI s&& (rI s&& (decide (n<=8)&&true))))))):=rfl
def zq(s zs n)(g:zs.length=n*3):tJ s zs n=oA s zs n:=by
 have h:=MP s zs n;unfold tJ nX oA;rw[Eu,Jo s zs n g];rw[bJ]at h⊢;simp only[am]at h⊢;constructor
 .rintro⟨⟨⟨a,f⟩,c⟩,t⟩
  obtain⟨⟨⟨⟨⟨h2,h3⟩,b⟩,h5⟩,d⟩,e⟩:=h.1 ⟨a,c⟩;exact⟨⟨t,h2,h3,b,h5,d,e,trivial⟩,f⟩
 .rintro⟨⟨t,h2,h3,b,h5,d,e,_⟩,f⟩
  obtain⟨a,c⟩:=h.2 ⟨⟨⟨⟨⟨h2,h3⟩,b⟩,h5⟩,d⟩,e⟩;exact⟨⟨⟨a,f⟩,c⟩,t⟩
def lN(s zs a n c)(w:World)(b:IR w w 3 a n c zs)(e:n<=1000000)(d:s.i7.size<=9223372036854775807):
 Calls prog 78 #[.agg (⟨s,a,n,c⟩:jt)] w (iZ w (.bool (oA s zs n))):=by
 rw[<- zq s zs n b.1];exact J9 s zs a n c w b e d
def kM:Nat->ByteArray
 |0=>ik
 |1=>⟨#[66,75,55]⟩
 |2=>⟨#[83,70,45,49]⟩
 |3=>⟨#[77,73,82,82,79,82]⟩
 |_=>⟨#[102,95,50]⟩
def qE(k)(a:k<5):((kM k).toList.isEmpty||kI (kM k))=true:=by
 match k,a with
 |0,_=>rw[(qz (kM 0)).2 rfl];rfl
 |1,_=>rw[show kI (kM 1)=true by decide+kernel];simp
 |2,_=>rw[show kI (kM 2)=true by decide+kernel];simp
 |3,_=>rw[show kI (kM 3)=true by decide+kernel];simp
 |4,_=>rw[show kI (kM 4)=true by decide+kernel];simp
def lD(k):(kM k).size<=9223372036854775807:=by
 match k with
 |0=>decide
 |1=>decide
 |2=>decide
 |3=>decide
 |k+4=>show(ByteArray.mk #[102,95,50]).size<=_;decide
structure SB (s:gW):Prop where
 curv: -1000000000<=s.curv/\s.curv<=1000000000
 t6: -1000000000<=s.t6/\s.t6<=1000000000
 conic: -100000000<=s.conic/\s.conic<=100000000
 t7: -100000000<=s.t7/\s.t7<=100000000
 a0: -1000000000<=s.a0/\s.a0<=1000000000
 a1: -1000000000<=s.a1/\s.a1<=1000000000
 a2: -1000000000<=s.a2/\s.a2<=1000000000
 a3: -1000000000<=s.a3/\s.a3<=1000000000
 p0: -1000000000<=s.p0/\s.p0<=1000000000
 p1: -1000000000<=s.p1/\s.p1<=1000000000
 order: -3<=s.order/\s.order<=3
 t8: -1000000000<=s.t8/\s.t8<=1000000000
 r9:0<=s.r9/\s.r9<=1000000000
 p8:0<=s.p8/\s.p8<=1000000000/\(s.r9=0\/s.p8<s.r9)
 dx: -1000000000<=s.dx/\s.dx<=1000000000
 dy: -1000000000<=s.dy/\s.dy<=1000000000
 ax: -90000000<=s.ax/\s.ax<=90000000
 ay: -90000000<=s.ay/\s.ay<=90000000
 az: -90000000<=s.az/\s.az<=90000000
 i7:(s.i7.toList.isEmpty||kI s.i7)=true
def mY{lo hi z}(h:lo<=z/\z<=hi):jr lo hi [z]=false:=by simp[jr];omega
def zP{s zs n}(d:zs.length=n*3)(e:n<=8)(hf:(List.range n).all (mP zs)=true)(h:SB s)(c:rM s n=true):oA s zs n=true:=by
 rw[<- zq s zs n d];unfold tJ nX
 have a:sm s=true:=by
  unfold sm;rw[nY _ _ s.a0,nY _ _ s.a1,nY _ _ s.a2,mY h.a0,mY h.a1,mY h.a2,mY h.a3];rfl
 have b:sr s n=true:=by
  unfold sr rI;rw[mY h.curv,mY h.t6,mY h.conic,mY h.t7,mY h.p0,mY h.p1,mY h.t8,mY h.dx,mY h.dy,mY h.ax,mY h.ay,mY h.az,h.i7];have h1:=h.r9;have h2:=h.p8;have h3:=h.order;simp;omega
 rw[a,hf,b,c];rfl
def mR:gW:=⟨0,0,0,0,0,0,0,0,0,0,0,0,0,ik,0,0,0,0,0,0,0⟩
def Tryz.infoDrS:(prog.info? 153).map (·.size)=some 22:=by kernel_rfl
def wu{ops d e f w}{Q:Exit->Act->World->Prop}{b o x a n c}(h:w.rangeAt b o (pg x a n c))(g:e.guard=none)(y)(j:e.op=.load 153 y)(k:f.eval y=.pointer (some ⟨b,o,none⟩))(i:wpList prog ops Q d (f.put e.dst (Rf x a n c)) w):wpList prog ops Q (e::d) f w:=
 wpList_load_mid g 153 y j b o k (pg x a n c) _ h underlying153 rfl Tryz.infoDrS i
def EV(w):Calls prog 104 #[] w (fun e w'=>e=.returned (.slice (J (w.heap.size)) 5 5)/\(∀k,k<5->w'.cell? ⟨w.heap.size,k,none⟩=some (.string (kM k)))/\w.heap.size<w'.heap.size/\Below w w w'):=by
 go_enter func104,ntmps104;go_wp2;go_ret;refine⟨rfl,fun k a=>?_,by simp,gY (TH _ _)⟩;rw[World.cell?_alloc_at _ _ _ _ rfl]
 match k,a with
 |0,_=>rfl
 |1,_=>rfl
 |2,_=>rfl
 |3,_=>rfl
 |4,_=>rfl
structure D9 (w:World) (x:tz) (a:Option Addr) (n c:Nat) (g:Nat) (s:gW) (zs:List Int) (ca:Option Addr) (cn cc:Nat) (wx:World):Prop where
 d:Bj wx w x a n c
 z:wx.heap[w.heap.size+1]? =some (.cells zS 70 (0,0))
 s:Y wx g s ca cn cc
 gt:w.heap.size+1<g
 b:Below w w wx
 f:jN (fun b=>w.heap.size<=b/\b<wx.heap.size/\b≠w.heap.size+1/\b≠g) wx ca cn cc zs
 cc:ca=none->cc=0
def D9.set{w x a n c g s zs j cn cc e}(h:D9 w x a n c g s zs j cn cc e)(i v s')(m:Y (e.setCell ⟨g,i,none⟩ v) g s' j cn cc):
 D9 w x a n c g s' zs j cn cc (e.setCell ⟨g,i,none⟩ v):=by
 have k:gN (fun b=>b≠g) e (e.setCell ⟨g,i,none⟩ v):=gK g [v] i e;have o:(e.setCell ⟨g,i,none⟩ v).heap.size=e.heap.size:=im g [v] i e;have q:=h.gt;exact⟨(k _ (by omega)).trans h.d,(k _ (by omega)).trans h.z,m,h.gt,h.b.setCell (p:=⟨g,i,none⟩) (by show w.heap.size<=g;omega) v,h.f.kept (k.mono (fun b h=>h.2.2.2)) (fun b l=>by rw[o];exact l),h.cc⟩
def D9.coat{w x a n c g s zs m t e cn cc i f l j}(h:D9 w x a n c g s zs t cn cc l)(k:Below l l j)(hf:jN (fun b=>l.heap.size<=b/\b<j.heap.size) j e i f m)(u:e=none->f=0):D9 w x a n c g s m e i f (j.setCell ⟨g,21,none⟩ (.slice e i f)):=by
 have o:gN (fun b=>b≠g) j (j.setCell ⟨g,21,none⟩ (.slice e i f)):=gK g [Z e i f] 21 j;have v:(j.setCell ⟨g,21,none⟩ (.slice e i f)).heap.size=j.heap.size:=im g [Z e i f] 21 j;have A:=h.gt;have hgl:=h.s.lt;have r:=TK h.z;have y:=TK h.d;refine⟨(o _ (by omega)).trans (h.d.go k),(o _ (by omega)).trans ((k.block _ r).trans h.z),Y.coat (h.s.go k hgl) _ _ _,h.gt,(I h.b k).setCell (p:=⟨g,21,none⟩) (by show w.heap.size<=g;omega) _,hf.kept (o.mono (fun b h=>by have:=h.1;omega)) (fun b q=>?_),u⟩;rw[v];have:=q.1;exact⟨by omega,q.2,by omega,by omega⟩
def D9.put{w x a n c g s zs i cn cc e}(h:D9 w x a n c g s zs i cn cc e)(s'):D9 w x a n c g s' [] none 0 0 (vS e g s' none 0 0):=by
 have f:gN (fun b=>b≠g) e (vS e g s' none 0 0):=gK g (gX s' none 0 0) 0 e;have j:=h.gt;exact⟨(f _ (by omega)).trans h.d,(f _ (by omega)).trans h.z,Y.stored h.s rfl _ _ _ _,h.gt,Below.put22 h.b (by omega) _ _ _ _,jN.nil _ _,fun _=>rfl⟩
def S9{z:Int}(h:z.tmod 2≠0):z.tmod 4≠0:=fun e=>h (Int.tmod_eq_zero_of_dvd (Int.dvd_trans (by decide:(2:Int)∣ 4) (Int.dvd_of_tmod_eq_zero e)))
def sA(x:tz)(s:gW):Nat->gW
 |0=>s
 |1=>{s with a0:=1000*x.h0}
 |2=>{s with a0:=1000*x.h0,a1:=1000*x.h1}
 |3=>{s with a0:=1000*x.h0,a1:=1000*x.h1,a2:=1000*x.h2}
 |_=>{s with a0:=1000*x.h0,a1:=1000*x.h1,a2:=1000*x.h2,a3:=1000*x.h3}
def jH(x:tz)(mk a:Int)(g:Nat):gW:={mR with kind:=1,curv:=1000*x.c0,conic:=1000*mk,t8:=1000*a,i7:=kM g,r9:=100000*x.r9}
def tz.In.all{x:tz}(h:x.In):(-32768<=x.c0/\x.c0<=32767/\ -32768<=x.c1/\x.c1<=32767)/\(-128<=x.h0/\x.h0<=127/\ -128<=x.h1/\x.h1<=127/\ -128<=x.h2/\x.h2<=127/\ -128<=x.h3/\x.h3<=127)/\(-128<=x.p0/\x.p0<=127/\ -128<=x.p1/\x.p1<=127)/\(0<=x.r9/\x.r9<=255)/\
 (-128<=x.b0/\x.b0<=127/\ -128<=x.b1/\x.b1<=127/\ -128<=x.b2/\x.b2<=127/\ -128<=x.b3/\x.b3<=127/\ -128<=x.b4/\x.b4<=127):=by
 obtain⟨_,⟨_,_⟩,⟨_,_⟩,_,_,⟨_,_⟩,⟨_,_⟩,⟨_,_⟩,⟨_,_⟩,⟨_,_⟩,⟨_,_⟩,_,_,_,⟨_,_⟩,_,⟨_,_⟩,⟨_,_⟩,⟨_,_⟩,⟨_,_⟩,⟨_,_⟩⟩:=h;omega
def Ri{x}(d:x.In){mk a h c}(e: -3000<mk/\mk<3000)(f: -20000<a/\a<20000)(b:c<5)(h0:0<=h)(h1:h=0\/h<100000*x.r9):
 oA {jH x mk a c with p8:=h} [] 0=true:=by
 have g:=d.all;refine zP rfl (by omega) rfl ?_ ?_
 .constructor<;>first|exact qE _ b|(simp only[jH,mR];omega)
 .simp[rM,mT,kK,jH,mR]
def PG{x}(d:x.In){mk a h c}(f: -3000<mk/\mk<3000)(g: -20000<a/\a<20000)(b:c<5)(h0:0<=h)(h1:h=0\/h<100000*x.r9){zs n}(e:zs.length=n*3)(i:n<=3)(hf:(List.range n).all (mP zs)=true):
 oA (sA x {jH x mk a c with p8:=h} 4) zs n=true:=by
 have j:=d.all;refine zP e (by omega) hf ?_ ?_
 .constructor<;>first|exact qE _ b|(simp only[sA,jH,mR];omega)
 .simp[rM,mT,kK,sA,jH,mR]
def Rj{x}(e:x.In){mk b h a d}(g: -3000<mk/\mk<3000)(f: -3000<a/\a<3000)(i: -20000<b/\b<20000)(c:d<5)(h0:0<=h)(h1:h=0\/h<100000*x.r9):
 oA {jH x mk b d with p8:=h,kind:=2,t6:=1000*x.c1,t7:=1000*a} [] 0=true:=by
 have j:=e.all;refine zP rfl (by omega) rfl ?_ ?_
 .constructor<;>first|exact qE _ c|(simp only[jH,mR];omega)
 .simp[rM,qw,kK,jH,mR]
def wv(x:tz)(a:Int):gW:={mR with kind:=3,t8:=1000*a,dx:=10000*x.b0,dy:=10000*x.b1,ax:=100000*x.b2,ay:=100000*x.b3,az:=100000*x.b4}
def Rk{x}(c:x.In){a}(d: -20000<a/\a<20000):oA (wv x a) [] 0=true:=by
 have e:=c.all;have b:=(qz ik).2 rfl;refine zP rfl (by omega) rfl ?_ ?_
 .constructor<;>first|exact qE 0 (by omega)|(simp only[wv,mR];omega)|(simp[wv,mR])
 .simp[rM,mT,qw,xN,wv,mR,b]
def Cj(x:tz)(a h:Int):gW:={mR with kind:=4,curv:=1000*x.c0,t8:=1000*a,r9:=100000*x.r9,p8:=h}
def Rl{x}(c:x.In){a h}(d: -20000<a/\a<20000)(h0:0<=h)(h1:h=0\/h<100000*x.r9):oA (Cj x a h) [] 0=true:=by
 have e:=c.all;have b:=(qz ik).2 rfl;refine zP rfl (by omega) rfl ?_ ?_
 .constructor<;>first|exact qE 0 (by omega)|(simp only[Cj,mR];omega)
 .simp[rM,mT,qw,kK,xN,Cj,mR,b]
def Rm{x}(g:x.In){mk c h a b}(i: -3000<mk/\mk<3000)(k: -20000<c/\c<20000)(e:b<5)(h0:0<=h)(h1:h=0\/h<100000*x.r9)(j: -4<a/\a<4)(d:a≠0)(f:kT (kM b)=false):
 oA {jH x mk c b with p8:=h,order:=a,p0:=1000*x.p0,p1:=1000*x.p1} [] 0=true:=by
 have l:=g.all;refine zP rfl (by omega) rfl ?_ ?_
 .constructor<;>first|exact qE _ e|(simp only[jH,mR];omega)
 .simp[rM,mT,kK,jH,mR,d,f]
def xh(x:tz):Int:=if x.p8.tmod 4=1/\0<x.r9 then(100000*x.r9).tdiv 4 else 0
def zQ(x:tz):gW:={jH x (x.k0.tmod 3000) (x.t8.tmod 20000) (x.i7.tmod 5).toNat with p8:=xh x}
def oh(x:tz):gM:=
 if x.kind.tmod 8=4 then⟨sA x (zQ x) 4,sI x.films (min 3 x.films.length)⟩
 else if x.kind.tmod 8=5 then⟨{zQ x with kind:=2,t6:=1000*x.c1,t7:=1000*x.k1.tmod 3000},[]⟩
 else if x.kind.tmod 8=6 then⟨wv x (x.t8.tmod 20000),[]⟩
 else if x.kind.tmod 8=7 then
  (if x.order.tmod 2=0 then⟨Cj x (x.t8.tmod 20000) (xh x),[]⟩
   else if kT (kM (x.i7.tmod 5).toNat)=true then⟨zQ x,[]⟩
   else⟨{zQ x with order:=x.order.tmod 4,p0:=1000*x.p0,p1:=1000*x.p1},[]⟩)
 else⟨zQ x,[]⟩
def Rn{x mk b h}{a:Nat}(h1:x.k0.tmod 3000=mk)(h2:x.t8.tmod 20000=b)(h3:x.i7.tmod 5=(a:Int))(c:h=xh x):{jH x mk b a with p8:=h}=zQ x:=by
 unfold zQ;rw[h1,h2,h3,c];rfl
def Nn(x:tz)(w:World)(e:Ending)(w':World):Prop:=
 ∃(s:gW)(a:Option Addr)(n c:Nat)(zs:List Int),(⟨s,zs⟩:gM)=oh x/\e=.returned (.agg (⟨s,a,n,c⟩:jt))/\jN (fun b=>w.heap.size<=b/\b<w'.heap.size) w' a n c zs/\(a=none->c=0)/\n<=3/\oA s zs n=true/\s.i7.size<=9223372036854775807/\Below w w w'
def uD{w x a n c g s zs d cn cc e}(h:D9 w x a n c g s zs d cn cc e)(m:(⟨s,zs⟩:gM)=oh x)(l:oA s zs cn=true)(k:cn<=3)(i:s.i7.size<=9223372036854775807):
 Nn x w (.returned (.agg (⟨s,d,cn,cc⟩:jt))) (vS e (w+1) s d cn cc):=by
 have j:gN (fun b=>b≠w.heap.size+1) e (vS e (w+1) s d cn cc):=gK (w+1) (gX s d cn cc) 0 e;have o:(vS e (w+1) s d cn cc).heap.size=e.heap.size:=im (w+1) (gX s d cn cc) 0 e;exact⟨s,d,cn,cc,zs,m,rfl,h.f.kept (j.mono (fun b h=>h.2.2.1)) (fun b h=>⟨h.1,by rw[o];exact h.2.1⟩),h.cc,k,l,i,Below.put22 h.b (bY _) _ _ _ _⟩
def No{w x a n c g s s' zs e cn cc d}(h:D9 w x a n c g s zs e cn cc d)(j:(⟨s',[]⟩:gM)=oh x)(i:oA s' [] 0=true)(f:s'.i7.size<=9223372036854775807):
 Nn x w (.returned (.agg (⟨s',none,0,0⟩:jt))) (vS d (w+1) s' none 0 0):=
 ⟨s',none,0,0,[],j,rfl,jN.nil _ _,fun _=>rfl,by omega,i,f,Below.put22 h.b (bY _) _ _ _ _⟩
def Bj.range{w g x a n c}(h:Bj w g x a n c):w.rangeAt g 0 (pg x a n c):=by
 intro j v b;rw[gA h];simpa using b
def bt(n b a:Int):Bool:=decide (b<=n)&&decide (n<=a)
def jc(n c a:Int)(w):Calls prog 122 #[n,c,a] w (iZ w (.bool (bt n c a))):=by
 go_enter func122,ntmps122;go_wp2
 all_goals
  go_ret;refine⟨ai (fun b=>Ending.returned (Value.bool b)) ?_,TH _ _⟩;rw[bJ];simp[bt] <;>omega
def ix(n c a:Int)(w):Calls prog 108 #[n,c,a] w (iZ w (.bool (bt n c a))):=by
 go_enter func108,ntmps108;go_wp2
 all_goals
  go_ret;refine⟨ai (fun b=>Ending.returned (Value.bool b)) ?_,TH _ _⟩;rw[bJ];simp[bt] <;>omega
def pM(s:gW)(n:Nat):Bool:=decide (s.kind=1)&&s.i7.toList.isEmpty&&decide (s.t8=0)&&decide (s.order=0)&&decide (n=0)
def BU(s a n c w):Calls prog 166 #[.agg (⟨s,a,n,c⟩:jt)] w (iZ w (.bool (pM s n))):=by
 have h1:=Y.new w s a n c;have d:=(TH w w).alloc (aa _) (.cells (⟨s,a,n,c⟩:jt) 70);have e:=O h1;have b:=O d;clear h1 d;go_enter func166,ntmps166;go_upto_region 1 with fail;refine gI (fun l=>Y l w s a n c/\Below w w l) ⟨e,b⟩ ?_;clear e b;rintro m ⟨h1,g⟩;obtain⟨k0,_,_,_,_,_,_,_,_,_,_,h,i,j,_,_,_,_,_,_,_,k⟩:=h1.cells;have f:=O g;clear g h1;cases q1:(s.kind==1) <;>cases q2:s.i7.toList.isEmpty<;>cases q3:(s.t8==0) <;>cases q4:(s.order==0) <;>cases q5:((n:Int)==0)
 all_goals
  go_wp2;go_ret;refine⟨?_,f⟩;clear f k0 h i j k;simp[pM,q2]at*
  try omega
def tr(x:gM):Bool:=oA x.s x.zs (x.zs.length/3)
def mU{S:Nat->Prop}{w a n c zs}(h:IRp S w 3 a n c zs):n=zs.length/3:=by rw[h.1];omega
def Pk(x a n c)(w:World)(f:IR w w 3 a n c x.zs)(m:n<=1000000)(l:x.s.i7.size<=9223372036854775807):
 Calls prog 163 #[.agg (⟨x.s,a,n,c⟩:jt)] w (iZ w (.bool (!tr x))):=by
 have d:tr x=oA x.s x.zs n:=by unfold tr;rw[<- mU (S:=fun _=>True) (f.irp (fun _ _=>trivial))]
 have h1:=Y.new w x.s a n c;have i:=O h1;have j:=O f;have h:=O d;clear h1 f d;go_enter func163,ntmps163;cases ho:oA x.s x.zs n
 all_goals
  have g:=O ho;clear ho
  go_wp2_with(first
   |(refine gO i rfl (.tmp 1) rfl rfl ?_)
   |((with_reducible refine(nC x.s x.zs a n c _ (j.out.go ((TH _ _).alloc (aa _) _)) m l).mono ?_);rintro e o ⟨b,k⟩;rw[g]at b;unfold err at b;simp only[bX,de,bC]at b;subst b))
  go_ret;exact⟨by rw[h,g];rfl,I (gY (TH _ _)) k⟩
def DS(l a b n c d w)(h1:RR oB 2 (fun b=>b<w.heap.size) w a n c l)(h2:RR oB 2 (fun b=>b<w.heap.size) w b n d l)(hn:n<=1000000):
 Calls prog 55 #[Z a n c,Z b n d] w (iZ w (.bool true)):=by
 have E:=O h1;have F:=O h2;clear h1 h2;go_enter func55,ntmps55;go_wp2_with fail
 go_loopw [5] (fun f wr=>∃k:Nat,k<=n/\f=.int .i64 (k:Int)/\Below w w wr) (fun f _=>n-(intOf f).toNat)
 case atStart=>exact⟨0,aA _,rfl,TH _ _⟩
 case round=>
  obtain⟨k,hk,rfl,B⟩:=hrel;have q:=O B;clear B;by_cases t:k<n
  .obtain⟨b1,N,y,cs,rfl,l1,C,⟨a2,o,c2,rfl,i,T,-,S⟩,v⟩:=(E.go ky q).at t
   obtain⟨b2,P,y',R,rfl,L,u,⟨a3,M,c3,rfl,m,W,-,-⟩,g⟩:=(F.go ky q).at t;rw[C]at u;cases u
   obtain rfl:o=M:=by rw[mU i,mU m]
   have D:=v 0 _ rfl;have x1:=v 1 _ rfl;have z0:=g 0 _ rfl;have x:=g 1 _ rfl;rw[bE]at D z0;have z:=O (i.ir (fun _ h=>h));have A:=O (m.ir (fun _ h=>h));have H:=O x1;have K:=O x;clear v g i m C;go_wp2_with fail
   go_quiet (fail)
   go_wp2_with fail
   go_loopw [6] (fun f Q=>∃j:Nat,j<=o/\f=.int .i64 (j:Int)/\Below wr wr Q) (fun f _=>o-(intOf f).toNat)
   case atStart=>exact⟨0,aA _,rfl,gV (TH _ _) _⟩
   case round=>
    obtain⟨j,X,rfl,r⟩:=hrel;have e:=O r;clear r D x1 z0 x;have x1:=(e.cell (p:=⟨b1,N+k*2+1,none⟩) l1).trans H;have x:=(e.cell (p:=⟨b2,P+k*2+1,none⟩) L).trans K;by_cases s:j<o
    .obtain⟨b3,o3,rfl,l3,p0,p1,p2⟩:=(z.go e).at3 s
     obtain⟨b4,o4,rfl,l4,q0,q1,q2⟩:=(A.go e).at3 s;generalize y.zs.getD (j*3) 0=v0 at*;generalize y.zs.getD (j*3+1) 0=v1 at*;generalize y.zs.getD (j*3+2) 0=v2 at*;go_wp2_with fail
     go_quiet (fail)
     go_wp2_with fail
     go_roundw
     case rel=>exact⟨j+1,by omega,by go_num,gV e _⟩
     case measure=>simp[intOf];omega
    .obtain rfl:j=o:=by omega
     go_wp2
     go_roundw
     case rel=>exact⟨k+1,by omega,by go_num,I q e⟩
     case measure=>simp[intOf];omega
  .obtain rfl:k=n:=by omega
   go_wp2;go_ret;exact⟨rfl,q⟩
def uM(l:List gM):Bool:=l.any fun x=>!tr x
def wV{α:Type}{f:α->Bool}{l:List α}{k x}(h:l[k]? =some x)(h0:(l.take k).any f=false):(l.take (k+1)).any f=f x:=by
 rw[mn h,eo,h0];simp
def yI{α:Type}{f:α->Bool}{l:List α}{k:Nat}{x}(h:l[k]? =some x)(h0:f x=true):l.any f=true:=cw.2 ⟨x,aL h,h0⟩
def Ka(l a n c w)(h:RR jE 22 (fun b=>b<w.heap.size) w a n c l)(L:n<=1000000):
 Calls prog 211 #[Z a n c,.func (.func 163) #[] #[]] w (Jl w (uM l)):=by
 have H:=O h;clear h;have g:=H.out.1;go_enter func211,ntmps211;go_wp2_with fail
 go_loopw [8] (fun p wr=>∃k:Nat,k<=n/\p=.int .i64 (k:Int)/\(l.take k).any (fun x=>!tr x)=false/\Below w w wr) (fun p _=>n-(intOf p).toNat)
 case atStart=>exact⟨0,aA _,rfl,rfl,TH _ _⟩
 case round=>
  obtain⟨k,K,rfl,z,t⟩:=hrel;have r:=O z;have d:=O t;clear z t;by_cases v:k<n
  .obtain⟨b,off,x,cs,rfl,hlt,B,⟨a2,F,c2,rfl,C,y,u,j⟩,A⟩:=(H.out.go iD d.out).at v
   have s:=O B;have E:=O (C.ir (fun _ h=>h));have D:=O A;have q:=O j;clear B C u A j;cases hv:tr x
   all_goals
    have m:=O hv;clear hv
    go_wp2_with(first
     |(refine lw D.out rfl (.tmp 14) rfl rfl ?_)
     |((with_reducible refine(Pk x _ F c2 _ E.out y q.out).mono ?_);rintro e M ⟨o,i⟩;rw[m.out]at o;simp only[gf,fT]at o;subst o))
   .go_ret
    refine⟨(k:Int),rfl,?_,I d.out i⟩;unfold uM;rw[yI (f:=fun x=>!tr x) s.out (by rw[m.out];rfl)];simp
   .go_roundw
    case rel=>exact⟨k+1,by omega,by go_num,(wV s.out r.out).trans (by rw[m.out];rfl),I d.out i⟩
    case measure=>simp[intOf];omega
  .obtain rfl:k=n:=by omega
   go_wp2;go_ret;refine⟨-1,rfl,?_,d.out⟩;have h1:=r.out;rw[<- g,bf]at h1;unfold uM;rw[h1];rfl
def su(l a n c w)(h:RR jE 22 (fun b=>b<w.heap.size) w a n c l)(i:n<=1000000):
 Calls prog 165 #[Z a n c,.func (.func 163) #[] #[]] w (iZ w (.bool (uM l))):=by
 go_enter func165,ntmps165;go_wp2_with fail;refine(Ka l a n c _ h i).mono ?_;rintro e j ⟨r,rfl,d,g⟩;by_cases h0:0<=r
 .rw[aP h0]at d
  have f:=O d;clear d;go_wp2;go_ret;exact⟨by rw[<- f.out];rfl,g⟩
 .rw[aw h0]at d
  have f:=O d;clear d;have h1:decide (0<=r)=false:=aw h0;go_wp2;go_ret;exact⟨by rw[<- f.out];rfl,g⟩
def oK(zs:List Int)(n:Nat)(s p:Int):Bool:=(List.range n).any fun k=>(zs.getD (k*3) 0==s)&& (zs.getD (k*3+1) 0==p)
def Kb(s p v a p0:Int)(g w)(h0:w.cell? (J g)=some (.int .i64 a))(h1:w.cell? ⟨g,1,none⟩=some (.int .i64 p0))(b:g<w.heap.size):
 Calls prog 214 #[.agg #[s,p,v],U g] w (iZ w (.bool ((s==a)&& (p==p0)))):=by
 cases q1:(s==a) <;>cases q2:(p==p0)
 all_goals
  go_enter func214,ntmps214;go_wp2;go_ret;exact⟨rfl,gY (TH _ _)⟩
def lL{f:Nat->Bool}{k}(h:(List.range k).any f=false):(List.range (k+1)).any f=f k:=by
 rw[bV,eo,h];simp
def lM{f:Nat->Bool}{n k}(a:k<n)(h:f k=true):(List.range n).any f=true:=cw.2 ⟨k,aJ.2 a,h⟩
def Eo(zs a n c f p0 g)(w:World)(h:IR w w 3 a n c zs)(C:n<=1000000)(h0:w.cell? (J g)=some (.int .i64 f))(h1:w.cell? ⟨g,1,none⟩=some (.int .i64 p0))(m:g<w.heap.size):
 Calls prog 243 #[Z a n c,.func (.func 214) #[] #[U g]] w (Jl w (oK zs n f p0)):=by
 have H:=O h;have y:=O h0;have z:=O h1;clear h h0 h1;go_enter func243,ntmps243;go_wp2_with fail
 go_loopw [8] (fun o wr=>∃k:Nat,k<=n/\o=.int .i64 (k:Int)/\oK zs k f p0=false/\Below w w wr) (fun o _=>n-(intOf o).toNat)
 case atStart=>exact⟨0,aA _,rfl,rfl,TH _ _⟩
 case round=>
  obtain⟨k,B,rfl,x,t⟩:=hrel;have r:=O x;have d:=O t;clear x t;by_cases j:k<n
  .obtain⟨b,off,rfl,hlt,E,x1,x2⟩:=(H.out.go d.out).at3 j
   have hf:∀v,((zs.getD (k*3) 0==f)&& (zs.getD (k*3+1) 0==p0))=v->(fun k=>(zs.getD (k*3) 0==f)&& (zs.getD (k*3+1) 0==p0)) k=v:=fun v h=>h
   have l:=lL r.out;have q:=O l;clear l;have c0:=O ((d.out.cell (p:=J g) m).trans y.out);have c1:=O ((d.out.cell (p:=⟨g,1,none⟩) m).trans z.out);cases hv:((zs.getD (k*3) 0==f)&& (zs.getD (k*3+1) 0==p0))
   all_goals
    have s:=O hv;have A:=O (hf _ hv);clear hv hf;generalize zs.getD (k*3) 0=y0 at*;generalize zs.getD (k*3+1) 0=y1 at*;generalize zs.getD (k*3+2) 0=y2 at*
    go_wp2_with((with_reducible refine(Kb y0 y1 y2 f p0 g _ c0.out c1.out (ab m d.out.size)).mono ?_);rintro e D ⟨u,i⟩;rw[s.out]at u;subst u)
   .go_roundw
    case rel=>exact⟨k+1,by omega,by go_num,q.out.trans s.out,I d.out i⟩
    case measure=>simp[intOf];omega
   .go_ret
    refine⟨(k:Int),rfl,?_,I d.out i⟩;unfold oK;rw[lM j A.out];simp
  .obtain rfl:k=n:=by omega
   go_wp2;go_ret;exact⟨-1,rfl,by rw[r.out];rfl,d.out⟩
def tK(zs a n c i p0 g)(w:World)(h:IR w w 3 a n c zs)(o:n<=1000000)(h0:w.cell? (J g)=some (.int .i64 i))(h1:w.cell? ⟨g,1,none⟩=some (.int .i64 p0))(m:g<w.heap.size):
 Calls prog 215 #[Z a n c,.func (.func 214) #[] #[U g]] w (iZ w (.bool (oK zs n i p0))):=by
 have k:=O h0;have l:=O h1;clear h0 h1;go_enter func215,ntmps215;go_wp2_with fail;refine(Eo zs a n c i p0 g _ h o k.out l.out m).mono ?_;rintro e p ⟨r,rfl,b,j⟩;by_cases d:0<=r
 .rw[aP d]at b
  have f:=O b;clear b;go_wp2;go_ret;exact⟨by rw[<- f.out];rfl,j⟩
 .rw[aw d]at b
  have f:=O b;clear b;have h1:decide (0<=r)=false:=aw d;go_wp2;go_ret;exact⟨by rw[<- f.out];rfl,j⟩
def nZ(k:Int):List Int:=if k=1 then[1,2,5,6,7,8,10]else if k=2 then[1,2,3,4,10]else if k=3 then[11,12,13,14,15]else if k=4 then[1,10]else[]
def jY(N:Nat)(w:World):Prop:=
 ∃r,w.cell? (J 11)=some (.map (some r))/\11<N/\r<N/\ ∃d b,w.heap[r]? =some (.map d b)/\
  ∀k:Int,1<=k->k<=4-> ∃i a n c,Instr.findNow (.int .i64) (.int .i64 k) d.toList 0=some (some (i,.slice a n c))/\IR N w 1 a n c (nZ k)
def jY.below{N w w'}(h:jY N w)(d:Below N w w'):jY N w':=by
 obtain⟨r,h0,e,g,j,b,h1,h2⟩:=h;refine⟨r,(d.cell (p:=J 11) e).trans h0,e,g,j,b,(d.block r g).trans h1,fun k m f=>?_⟩;obtain⟨i,a,n,c,h3,l⟩:=h2 k m f;exact⟨i,a,n,c,h3,l.below d (aa _)⟩
def jY.mono{N M w}(h:jY N w)(g:N<=M):jY M w:=by
 obtain⟨r,h0,l,m,e,b,h1,h2⟩:=h;refine⟨r,h0,by omega,by omega,e,b,h1,fun k j d=>?_⟩;obtain⟨i,a,n,c,h3,f⟩:=h2 k j d;exact⟨i,a,n,c,h3,f.mono g⟩
def jY.go{w w':World}(h:jY w w)(a:Below w w w'):jY w' w':=(h.below a).mono a.size
def tL{P t kt e}(h:P.underlying t=some (.map kt e))(d:P.underlying kt=some (.int .i64)){w r i k v c a}(g:w.heap[r]? =some (.map c a))(hf:Instr.findNow (.int .i64) (.int .i64 k) c.toList 0=some (some (i,v))):
 (Instr.lookup t (.map (some r)) (.int .i64 k) false).run P w=.ok v w:=by
 have f:∀b,(Instr.checkKey b 10000 kt (.int .i64 k)).run P w=.ok () w:=fun b=>by
  rw[show(10000:Nat)=9999+1 from rfl,Instr.checkKey,bR,bQ d];rfl
 simp[Instr.lookup,Instr.findKey,bR,bQ h,bQ d,MapKept.run_getObj_map g,f,hf]
def IR.sl{N w a n c zs}(h:IR N w 1 a n c zs):SL N w a n c zs:=
 ⟨by rw[h.1,dn],h.2.1,fun b=>by have:=h.2.2 b;rwa[dn]at this⟩
def Kc{f:Int->Bool}{zs:List Int}{k}(h:k<zs.length)(h0:(zs.take k).any f=false)(v)(a:f (zs.getD k 0)=v):(zs.take (k+1)).any f=v:=(Ee h h0).trans a
def Kd(zs a n c)(v:Int)(w:World)(j:SL w w a n c zs)(B:n<=1000000):
 Calls prog 287 #[Z a n c,v] w (Jl w (zs.any fun z=>v==z)):=by
 have e:=j.len;have u:=O j;have d:=O e;clear j e;go_enter func287,ntmps287;go_wp2_with fail
 go_loopw [8] (fun l wr=>∃k:Nat,k<=n/\l=.int .i64 (k:Int)/\((zs.take k).any fun z=>v==z)=false/\Below w w wr) (fun l _=>n-(intOf l).toNat)
 case atStart=>exact⟨0,aA _,rfl,rfl,TH _ _⟩
 case round=>
  obtain⟨k,A,rfl,s,q⟩:=hrel;have o:=O s;have g:=O q;clear s q;by_cases h:k<n
  .obtain⟨b,off,rfl,hlt,r⟩:=(u.go g).at (by omega)
   have c0:=r k h;clear r;have i:=Kc (f:=fun z=>v==z) (k:=k) (by rw[<- d];exact h) o;have m:=O i;clear i;cases hv:(v==zs.getD k 0)
   all_goals
    have p:=O (m _ hv);clear m;generalize zs.getD k 0=z at*;go_wp2
   .go_roundw
    case rel=>exact⟨k+1,by omega,by go_num,p,g⟩
    case measure=>simp[intOf];omega
   .go_ret
    refine⟨(k:Int),rfl,?_,g⟩;rw[aP (by omega)]
    symm
    obtain⟨x,y,t⟩:=cw.1 p;exact cw.2 ⟨x,List.mem_of_mem_take y,t⟩
  .obtain rfl:k=n:=by omega
   go_wp2;go_ret;refine⟨-1,rfl,?_,g⟩;have h1:=o.out;rw[d,bf]at h1;rw[h1];rfl
def CX(zs a n c)(v:Int)(w:World)(i:SL w w a n c zs)(h:n<=1000000):
 Calls prog 286 #[Z a n c,v] w (iZ w (.bool (zs.any fun z=>v==z))):=by
 go_enter func286,ntmps286;go_wp2_with fail;refine(Kd zs a n c v _ i h).mono ?_;rintro e j ⟨r,rfl,b,g⟩;by_cases d:0<=r
 .rw[aP d]at b
  have f:=O b;clear b;go_wp2;go_ret;exact⟨by rw[<- f];rfl,g⟩
 .rw[aw d]at b
  have f:=O b;clear b;have h1:decide (0<=r)=false:=aw d;go_wp2;go_ret;exact⟨by rw[<- f];rfl,g⟩
def A3(k):(nZ k).length<=7:=by unfold nZ;split;decide;split;decide;split;decide;split<;>decide
def Pl(r)(k v:Int)(w:World)(p:jY w w)(g:w.cell? (J 11)=some (.map (some r)))(h1:1<=k)(j:k<=4):
 Calls prog 283 #[.map (some r),k,v] w (iZ w (.bool ((nZ k).any fun z=>v==z))):=by
 obtain⟨t,h0,_,hlt,q,d,b,f⟩:=p;rw[g]at h0;cases h0;obtain⟨i,a,n,c,hf,hi⟩:=f k h1 j;have s:=tL underlying353 underlying3 b hf
 have o:n<=1000000:=by have:=A3 k;have:=hi.1;omega
 have h:=O hi.sl;clear b f hf hi g;go_enter func283,ntmps283
 go_wp2_with((with_reducible refine(CX (nZ k) a n c v _ h.out o).mono ?_);rintro e u ⟨m,l⟩;subst m)
 go_ret;exact⟨rfl,l⟩
def tt(s:gW)(p:Int):Bool:=if p=16\/p=17 then !(s.order==0)else(p==9)||(nZ s.kind).any fun z=>p==z
def Ep(s)(p:Int)(a n c)(w:World)(b:jY w w)(h1:1<=s.kind)(y:s.kind<=4):
 Calls prog 275 #[.agg (⟨s,a,n,c⟩:jt),p] w (iZ w (.bool (tt s p))):=by
 have d:=Y.new w s a n c;have m:=(TH w w).alloc (aa _) (.cells (⟨s,a,n,c⟩:jt) 70);have o:=O d;have t:=O m;have g:=O (b.go m);clear d m b;go_enter func275,ntmps275;go_upto_region 1 with fail;refine gI (fun i=>Y i w s a n c/\Below w w i/\jY i i) ⟨o,t,g⟩ ?_;clear o t g;rintro E ⟨d,v,b⟩;obtain⟨r,h0,_⟩:=id b;obtain⟨k0,_,_,_,_,_,_,_,_,_,_,B,_⟩:=d.cells;have k:=O v;have g:=O b;clear v b d;by_cases h:p=16\/p=17
 .have f:tt s p=!(s.order==0):=by unfold tt;rw[aq h]
  have l:=O f;clear f
  obtain rfl|rfl:=h
  all_goals
   go_wp2;go_ret;exact⟨by rw[l];rfl,k⟩
 .have f:tt s p=((p==9)||(nZ s.kind).any fun z=>p==z):=by unfold tt;rw[aj h]
  have l:=O f;clear f
  have C:(p==16)=false:=by simp;omega
  have D:(p==17)=false:=by simp;omega
  have x:=O h0;clear h;cases q:(p==9)
  all_goals
   have Q:=O q
   go_wp2_with((with_reducible refine(Pl r s.kind p _ g.out x.out h1 y).mono ?_);rintro e F ⟨A,j⟩;subst A;have u:=O j;clear j)
   go_ret;rw[l,Q]
  .exact⟨rfl,I k u⟩
  .exact⟨rfl,k⟩
def vJ{w:World}{a v}(h:w.cell? a=some v):a=⟨a.block,a.off,none⟩/\a.block<w.heap.size:=by
 unfold World.cell? at h;split at h
 .rename_i c _ _ hb
  split at h
  .cases h
  .rename_i hs
   refine⟨?_,TK hb⟩;obtain⟨b,o,s⟩:=a
   cases s with
   |none=>rfl
   |some s=>simp at hs
 .cases h
def Qe:prog.globalNamed "monocle/surface.places" =some 11:=by kernel_rfl
def Qf:(prog.globals[11]?).map (·.type)=some 353:=by kernel_rfl
def Mv{P e}{v:Value}{a n c d}(f:P.underlying e=some (.slice d))(hf:v.formed P e=true)(b:v.cells.toList=[.slice a n c]):v=.slice a n c:=by
 cases v<;>simp_all [Value.formed,Value.cells]
def OV{P k}(b:P.underlying k=some (.int .i64)){v l}(h:keyOf P k v=some l):MapKept.IsKey (.int .i64) v:=by
 rw[keyOf_int b]at h;obtain⟨d,a,h1,_⟩:=mapKey_isKey h;rw[b]at a;cases a;exact h1
def Gh{H}:∀{xs ys:List Int},(lits (H:=H) .i64 xs)=lits .i64 ys->xs=ys
 |[],[],_=>rfl
 |[],_::_,h=>by cases h
 |_::_,[],h=>by cases h
 |x::xs,y::ys,h=>by
  unfold lits at h;simp only[aN,ei,DataW.lit.injEq,Lit.int.injEq,true_and]at h;obtain⟨rfl,h2⟩:=h;have:=Gh (H:=H) (xs:=xs) (ys:=ys) h2;rw[this]
def D2{a b w w'}(h:(Result.ok a w:Result Value)=.ok b w'):a=b:=by cases h;rfl
def Bt{W C}(h:laidMet prog (("monocle/surface.places",Rows.laid_monocle_surface_places)::C) W):jY W W:=by
 obtain⟨ps,⟨g0,t0,a7,f0,p0,q0,E,a1,a2,S,_,_⟩,_,_⟩:=h;obtain rfl:=aE (Qe.symm.trans E);obtain rfl:=aE (Qf.symm.trans a1)
 have zero:(zeroValue 162).run prog W=.ok (.slice none 0 0) W:=by kernel_rfl
 obtain ⟨_,f⟩|⟨L,K,p,m,_,R,t,_,F,f⟩:=WideElems.open_map underlying353 S
 .cases f
 simp only[dK]at f
 have e:W.cell? (J 11)=some (.map (some L)):=by
  have:=World.var?_cell E a2 0;rw[Array.eq_one_of_toList R]at this;simpa using this
 have N:=(vJ e).2;refine⟨L,e,N,TK t,K,p,t,?_⟩
 have d:∀k:Int,(Lit.int .i64 k).wf=true-> ∀zs:List Int,(Rows.laid_monocle_surface_places (H:=Unit)).atKey (.int .i64 k) .nil=.slice (lits .i64 zs) []-> ∃i a n c,Instr.findNow (.int .i64) (.int .i64 k) K.toList 0=some (some (i,.slice a n c))/\IR W W 1 a n c zs:=by
  intro k a3 zs g;have o:=keyOf_int_mk (P:=prog) underlying3 a3
  obtain ⟨_,_,hat⟩|⟨e0,y,z,T,A,s,hat,_⟩:=fit_look (w:=W) false (int_keyed underlying3) underlying353 zero t F o
  .have:=hat .nil
   rw[<- f.1,g]at this;cases this
  .have r:=hat .nil
   rw[<- f.1,g]at r
   rcases MapKept.findNow_spec (OV underlying3 o) K.toList 0 (fun x f=>by
    obtain⟨l,hl⟩:=F.keys x f
    exact OV underlying3 hl)with⟨_,a0⟩|⟨j,e1,hf,_,a9⟩
   .exact absurd T (a0 e0 z)
   .have q:=tL underlying353 underlying3 t hf
    have hv:e1.val=e0.val:=by
     have:=q.symm.trans A;simp only[bC,de]at this;exact D2 this
    unfold elemAt at s;split at s
    .rename_i hform
     obtain ⟨_,rfl⟩|⟨a,len,cap,xs,u,_,X,_,a4,rfl,b,_⟩:=open_ints underlying162 underlying3 (by kernel_rfl) s
     .cases r
     .have B:=Mv underlying162 hform u
      simp only[DataW.slice.injEq]at r;have h1:=Gh r.1
      have h2:xs.drop len=[]:=by
       have:=r.2;unfold lits at this;exact List.map_eq_nil_iff.1 this.symm
      have a5:xs=zs:=by
       have:=cA len xs;rw[h2,bG]at this;exact this.symm.trans h1.symm
      subst a5
      have v:xs.length=len:=by
       have ha:xs.length<=len:=by
        rw[List.drop_eq_nil_iff]at h2;exact h2
       have a8:len<=xs.length:=by rw[a4];split<;>omega
       omega
      refine⟨0+j,some a,len,cap,by rw[hf,hv,B],by rw[v,dn],X,fun a6=>?_⟩;have D:=b 0 (by omega)
      have Q:a.add 0=a:=by simp[Addr.add]
      rw[Q]at D;obtain⟨M,hlt⟩:=vJ D;refine⟨a.block,a.off,by rw[<- M],hlt,fun j hj=>?_⟩;have:=b j (by omega);rw[M,fC]at this;exact this
    .cases s
 intro k h1 h4
 have hk:k=1\/k=2\/k=3\/k=4:=by omega
 obtain rfl|rfl|rfl|rfl:=hk
 .exact d 1 rfl [1,2,5,6,7,8,10] rfl
 .exact d 2 rfl [1,2,3,4,10] rfl
 .exact d 3 rfl [11,12,13,14,15] rfl
 .exact d 4 rfl [1,10] rfl
def gW.get(s:gW)(p:Int):Int:=if p=1 then s.curv else if p=2 then s.conic else if p=3 then s.t6 else if p=4 then s.t7 else if p=5 then s.a0 else if p=6 then s.a1 else if p=7 then s.a2 else if p=8 then s.a3 else if p=9 then s.t8 else if p=10 then s.r9 else if p=11 then s.dx else if p=12 then s.dy else if p=13 then s.ax else if p=14 then s.ay else if p=15 then s.az else if p=16 then s.p0 else if p=17 then s.p1 else 0
def gW.put(s:gW)(p v:Int):gW:=if p=1 then{s with curv:=v} else if p=2 then{s with conic:=v} else if p=3 then{s with t6:=v} else if p=4 then{s with t7:=v} else if p=5 then{s with a0:=v} else if p=6 then{s with a1:=v} else if p=7 then{s with a2:=v} else if p=8 then{s with a3:=v} else if p=9 then{s with t8:=v} else if p=10 then{s with r9:=v} else if p=11 then{s with dx:=v} else if p=12 then{s with dy:=v} else if p=13 then{s with ax:=v} else if p=14 then{s with ay:=v} else if p=15 then{s with az:=v} else if p=16 then{s with p0:=v} else if p=17 then{s with p1:=v} else s
def mi(p:Int):Nat:=if p=1 then 1 else if p=2 then 2 else if p=3 then 3 else if p=4 then 4 else if p=5 then 5 else if p=6 then 6 else if p=7 then 7 else if p=8 then 8 else if p=9 then 12 else if p=10 then 14 else if p=11 then 16 else if p=12 then 17 else if p=13 then 18 else if p=14 then 19 else if p=15 then 20 else if p=16 then 9 else if p=17 then 10 else 0
def oL{p:Int}(h1:1<=p)(h2:p<=17):p=1\/p=2\/p=3\/p=4\/p=5\/p=6\/p=7\/p=8\/p=9\/p=10\/p=11\/p=12\/p=13\/p=14\/p=15\/p=16\/p=17:=by omega
def Y.put{w g s a n c}(h:Y w g s a n c){p}(h1:1<=p)(h2:p<=17)(v):Y (w.setCell ⟨g,mi p,none⟩ (.int .i64 v)) g (s.put p v) a n c:=by
 have k:=gG h (mi p) (.int .i64 v);unfold Y;rw[k]
 obtain rfl|rfl|rfl|rfl|rfl|rfl|rfl|rfl|rfl|rfl|rfl|rfl|rfl|rfl|rfl|rfl|rfl:=oL h1 h2<;>rfl
def Y.getP{w g s a n c}(h:Y w g s a n c){p}(h1:1<=p)(h2:p<=17):w.cell? ⟨g,mi p,none⟩=some (.int .i64 (s.get p)):=by
 obtain⟨k0,k1,t,u,v,x,y,z,A,B,b,d,e,f,i,j,k,l,m,o,q,r⟩:=h.cells
 obtain rfl|rfl|rfl|rfl|rfl|rfl|rfl|rfl|rfl|rfl|rfl|rfl|rfl|rfl|rfl|rfl|rfl:=oL h1 h2<;>assumption
def oM{s p}(h:tt s p=true):1<=p/\p<=17:=by
 unfold tt nZ at h
 repeat' split at h
 all_goals simp at h;omega
def vT{s zs n}(h:oA s zs n=true):1<=s.kind/\s.kind<=4:=by
 have h1:uX s zs n=true:=by unfold oA at h;simp at h;exact h.1
 have h2:=an.1 h1 0 (by simp);unfold pC rK at h2;simp[jr]at h2;omega
def nj(s:gW)(zs:List Int)(n:Nat)(p:Int):Int:=if oA s zs n=true then(if tt s p=true then 0 else 2)else 110
def xO(s zs)(p:Int)(a n c)(w:World)(t:IR w w 3 a n c zs)(q:n<=1000000)(o:s.i7.size<=9223372036854775807)(r:jY w w):
 Calls prog 261 #[.agg (⟨s,a,n,c⟩:jt),p] w (iZ w (.int .i64 (nj s zs n p))):=by
 have h1:=Y.new w s a n c;have f:=(TH w w).alloc (aa _) (.cells (⟨s,a,n,c⟩:jt) 70);have j:=O h1;have m:=O (t.go f);have u:=O (r.go f);have i:=O f;clear h1 t r f;go_enter func261,ntmps261
 cases ho:oA s zs n with
 |false=>
  have h:=O ho;clear ho
  go_wp2_with(first
   |(refine gO j rfl (.tmp 2) rfl rfl ?_)
   |((with_reducible refine(nC s zs a n c _ m.out q o).mono ?_);rintro e y ⟨b,d⟩;rw[h]at b;unfold err at b;simp only[de,bC]at b;subst b))
  go_ret;exact⟨by(unfold nj;rw[aj (by rw[h];simp)];rfl),I i d⟩
 |true=>
  obtain⟨v,x⟩:=vT ho;have h:=O ho;clear ho;cases hh:tt s p
  all_goals
   have l:=O hh;clear hh
   go_wp2_with(first
    |(refine gO j rfl (.tmp 2) rfl rfl ?_)
    |(refine gO (Y.go j g (by simp)) rfl (.tmp 2) rfl rfl ?_)
    |((with_reducible refine(nC s zs a n c _ m.out q o).mono ?_);rintro e y ⟨b,d⟩;rw[h]at b;unfold err at b;simp only[bX]at b;subst b;have g:=O d;clear d)
    |((with_reducible refine(Ep s p a n c _ (u.out.go g.out) v x).mono ?_);rintro e z ⟨b,d⟩;rw[l]at b;subst b;have k:=O d;clear d))
   go_ret;refine⟨?_,I i (I g k)⟩;unfold nj;rw[aq h.out,l];rfl
def vl(s:gW)(zs:List Int)(n:Nat)(p:Int):Bool:=oA s zs n&&tt s p
def MN(s zs)(p:Int)(a n c)(w:World)(t:IR w w 3 a n c zs)(q:n<=1000000)(o:s.i7.size<=9223372036854775807)(r:jY w w):
 Calls prog 260 #[.agg (⟨s,a,n,c⟩:jt),p] w (iZ w (.bool (vl s zs n p))):=by
 have h1:=Y.new w s a n c;have f:=(TH w w).alloc (aa _) (.cells (⟨s,a,n,c⟩:jt) 70);have j:=O h1;have m:=O (t.go f);have u:=O (r.go f);have i:=O f;clear h1 t r f;go_enter func260,ntmps260
 cases ho:oA s zs n with
 |false=>
  have h:=O ho;clear ho
  go_wp2_with(first
   |(refine gO j rfl (.tmp 2) rfl rfl ?_)
   |((with_reducible refine(nC s zs a n c _ m.out q o).mono ?_);rintro e y ⟨b,d⟩;rw[h]at b;unfold err at b;simp only[de,bC]at b;subst b))
  go_ret;exact⟨by unfold vl;rw[h];rfl,I i d⟩
 |true=>
  obtain⟨v,x⟩:=vT ho;have h:=O ho;clear ho;cases hh:tt s p
  all_goals
   have l:=O hh;clear hh
   go_wp2_with(first
    |(refine gO j rfl (.tmp 2) rfl rfl ?_)
    |(refine zj (Y.go j g (by simp)) (by rfl) (.tmp 2) rfl rfl ?_)
    |((with_reducible refine(nC s zs a n c _ m.out q o).mono ?_);rintro e y ⟨b,d⟩;rw[h]at b;unfold err at b;simp only[bX]at b;subst b;have g:=O d;clear d)
    |((with_reducible refine(Ep s p a n c _ (u.out.go g.out) v x).mono ?_);rintro e z ⟨b,d⟩;rw[l]at b;subst b;have k:=O d;clear d))
   go_ret;refine⟨?_,I i (I g k)⟩;unfold vl;rw[h,l];rfl
def zy(x a n c)(w:World)(p:IR w w 3 a n c x.zs)(t:n<=1000000)(q:x.s.i7.size<=9223372036854775807):
 Calls prog 149 #[.agg (⟨x.s,a,n,c⟩:jt)] w (iZ w (.bool (tr x&&pM x.s n))):=by
 have h:n=x.zs.length/3:=by rw[p.1];omega
 have m:tr x=oA x.s x.zs n:=by unfold tr;rw[<- h]
 have h1:=Y.new w x.s a n c;have d:=(TH w w).alloc (aa _) (.cells (⟨x.s,a,n,c⟩:jt) 70);have o:=O p;have f:=O h1;have b:=O d;have k:=O m;clear p h1 d h m;go_enter func149,ntmps149;go_upto_region 1 with fail;refine gI (fun A=>Y A w x.s a n c/\Below w w A) ⟨f,b⟩ ?_;clear f b;rintro C ⟨h1,d⟩;have r:=h1.lt;have f:=O h1;have b:=O d;clear h1 d;cases ho:oA x.s x.zs n
 case false=>
  have i:=O ho;clear ho
  go_wp2_with(first
   |(refine gO f rfl (.tmp 1) rfl rfl ?_)
   |((with_reducible refine(lN x.s x.zs a n c _ (o.out.go b.out) t q).mono ?_);rintro e B ⟨l,j⟩;rw[i]at l;subst l;have g:=O j;clear j))
  go_ret;exact⟨by rw[k,i];rfl,I b g⟩
 case true=>
  have i:=O ho;clear ho;cases q1:(x.s.kind==1) <;>cases q2:x.s.i7.toList.isEmpty<;>cases q3:(x.s.t8==0) <;>cases q4:(x.s.order==0) <;>cases q5:((n:Int)==0)
  all_goals
   go_wp2_with(first
    |(refine gO f rfl (.tmp 1) rfl rfl ?_)
    |((with_reducible refine(lN x.s x.zs a n c _ (o.out.go b.out) t q).mono ?_);rintro e B ⟨l,j⟩;rw[i]at l;subst l;obtain⟨k0,_,_,_,_,_,_,_,_,_,_,u,v,y,_,_,_,_,_,_,_,z⟩:=(f.go j r).cells;have g:=O j;clear j))
   go_ret;refine⟨?_,I b g⟩;rw[k,i];clear b g k0 u v y z o f k i;simp[pM,q2]at*
   try omega
