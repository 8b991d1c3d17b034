import Derived.Test.YtgohdcccfkjooaaGreatDoorQAL
import Derived.Lib.SlBytesConst
import Derived.Lib.AppendIntMem
namespace Go.Proofs.YtgohdcccfkjooaaGreatDoor
set_option linter.all false
set_option maxRecDepth 100000
set_option maxHeartbeats 1600000
open Go.Proofs.Tryz Go.RowKit Go.Shelf
def SA(w:World)(r:Rat)(e:Ending)(w':World):Prop:=
 ∃s a n c b m d,e=.returned (.tuple #[.agg #[.bool s,Z a n c,false,Z b m d],oZ])/\QL w' w' s a n c b m d r/\Below w w w'
def ET(g)(L:Int)(w)(X:g.Ok)(h1:g.lo<=L)(h2:L<=g.hi)(c:g.Far L):
 Calls prog 152 #[.agg #[g.nm,g.form,g.c0,g.c1,g.c2,g.c3,g.c4,g.c5,g.lo,g.hi],L] w (SA w (iL g L)):=by
 obtain⟨i0,i1⟩:=iN w (.cells #[g.nm,g.form,g.c0,g.c1,g.c2,g.c3,g.c4,g.c5,g.lo,g.hi] 168) (.cells #[false,oN,false,oN] 243);have q:=iH (w:=w) (.cells #[g.nm,g.form,g.c0,g.c1,g.c2,g.c3,g.c4,g.c5,g.lo,g.hi] 168) (.cells #[false,oN,false,oN] 243);have P:=O i0;have Q:=O i1;have o:=O q;have k:=O X;have l:=O c;clear i0 i1 q X c
 go_enter func152,ntmps152
 go_upto_region 1 with fail
 refine jp (fun C=>Nd C w g/\pO C (w+1) false none 0 0 false none 0 0/\Below w w C) ⟨P,Q,o⟩ ?_;clear P Q o;rintro w0 ⟨n,a,r⟩;have lg:=TK n;have l0:=TK a;obtain⟨z0,h,i,j,D,E,F,H,K,M⟩:=ml n;have T:=O n;have R:=O a;have d:=O r;clear n a r
 go_wp2_with fail
 refine(zJ g w0 k).mono ?_;rintro e w1 ⟨rfl,b⟩;clear z0 h i j D E F H K M;obtain⟨z0,h,i,j,D,E,F,H,K,M⟩:=ml ((b.block _ lg).trans T);have s:=O ((b.block _ l0).trans R);have p:=O (d.trans (b.mono d.size))
 have g1:¬L<g.lo:=by omega
 have g2:¬g.hi<L:=by omega
 clear b T R d
 go_wp2_with fail
 have a1:=k.lo;have a0:=k.hi;refine(GY g L w1 k.co (by omega) (by omega) l).mono ?_;rintro e w2 ⟨B,t,A,x,u,z,y,rfl,W,f⟩;clear z0 h i j D E F H K M;have a:=(f.block _ (TK s)).trans s;obtain⟨y0,y1,y2,y3⟩:=gL a;have e0:=gD a 0;have e1:=gD a 1;have e2:=gD a 2;have e3:=gD a 3;have S:=O a;have F6:=O W;have N:=O (p.trans (f.mono p.size));clear a W f s
 go_wp2_with fail
 have m:=kl (s':=B) (a':=t) (n':=A) (c':=x) (t':=false) (b':=u) (m':=z) (d':=y) S;obtain⟨z0,h,i,j⟩:=gL m;refine ar (v:=.tuple #[.agg #[B,Z t A x,false,Z u z y],oZ]) ?_ rfl ?_
 .simp[results,results152,go_sem,z0,h,i,j]
 .exact⟨B,t,A,x,u,z,y,rfl,F6.putG S,iR N (bY _)⟩
def Jt{a b c:Rat}(d:0<b)(h:a<=c*b):a/b<=c:=by
 rw[<- fS,Rat.lt_div_iff d,fS];exact h
def Ju{a b c:Rat}(d:0<b)(h:c*b<=a):c<=a/b:=by
 rw[<- fS,Rat.div_lt_iff d,fS];exact h
def Ni{r:Rat}(h:0<r):0<r.num:=by
 have:=(Rat.lt_iff 0 r).1 h;simpa using this
def QZ(L):tS L*1000000000000=((L*L:Int):Rat):=by
 unfold tS;rw[Rat.mkRat_eq_div];exact Rat.div_mul_cancel (by decide+kernel)
def Jv{L}(h1:400000<=L)(h2:L<=700000):4/25<=tS L/\tS L<=1/2:=by
 have h:=QZ L;have a:(400000:Int)*400000<=L*L:=eI h1 h1 (by omega) (by omega)
 have h3:(160000000000:Int)<=L*L:=by omega
 have c:L*L<=700000*700000:=eI h2 h2 (by omega) (by omega)
 have b:L*L<=490000000000:=by omega
 have h5:((160000000000:Int):Rat)<=((L*L:Int):Rat):=gi.2 h3;have d:((L*L:Int):Rat)<=((490000000000:Int):Rat):=gi.2 b;rw[<- h]at h5 d;simp only[ft]at h5 d;generalize tS L=w at*;clear h h1 h2 h3 b a c;constructor<;>grind
def Nj:mkRat 1 1=1:=by decide+kernel
def S8(L):kN L (-((0:Nat):Int))=1:=Nj
def Q8(L):kN L 1=tS L:=by
 show mkRat 1 1*tS L=_
 rw[Nj,Rat.one_mul]
def Su(L):kN L (-((1:Nat):Int))=1/tS L:=by
 show mkRat 1 1/tS L=_
 rw[Nj]
def Q9(L):kN L (1-((2:Nat):Int))=1/tS L:=by
 show mkRat 1 1/tS L=_
 rw[Nj]
def Nk{w:Rat}(h1:4/25<=w)(h2:w<=1/2):2<=1/w/\1/w<=25/4:=by
 have h0:0<w:=by grind
 exact⟨Ju h0 (by grind),Jt h0 (by grind)⟩
def AW:jQ:=⟨⟨#[66,75,55]⟩,2,1504600000,4200000,0,0,0,0,300000,2500000⟩
def D8:jQ:=⟨⟨#[83,70,45,49]⟩,1,1559000000,12000000,285000000,56000000,0,0,300000,2500000⟩
def Cg:jQ:=⟨⟨#[102,95,50]⟩,3,2600000000,-9000000,22000000,0,0,0,300000,2500000⟩
def np:List jQ:=[AW,D8,Cg]
def EO{L}(h1:400000<=L)(h2:L<=700000):1<=mr AW L 3/\mr AW L 3<=8/5:=by
 obtain⟨a,b⟩:=Jv h1 h2;obtain⟨c,d⟩:=Nk a b;have e:mr AW L 3=mkRat 0 1+pT AW 0*kN L (-((0:Nat):Int))+pT AW 1*kN L (-((1:Nat):Int))+pT AW 2*kN L (-((2:Nat):Int)):=rfl;rw[e,S8,Su,show mkRat 0 1=0 from by decide+kernel,show pT AW 0=7523/5000 from by decide+kernel,show pT AW 1=21/5000 from by decide+kernel,show pT AW 2=0 from by decide+kernel,eU];generalize 1/tS L=u at*;clear a b e;constructor<;>grind
def Ra{L}(h1:400000<=L)(h2:L<=700000):1<=iL AW L/\iL AW L<=4:=by
 obtain⟨a,b⟩:=EO h1 h2;have e:iL AW L=mr AW L 3*mr AW L 3:=rfl;rw[e];generalize mr AW L 3=r at*
 have h0:0<=r:=by grind
 have c:1*r<=r*r:=fF a h0;have g2:r*r<=8/5*r:=fF b h0;constructor<;>grind
def Jw{w d:Rat}(h1:4/25<=w)(h0:0<=d)(b:d<=7/125):0<=w/(w+ -d)/\w/(w+ -d)<=2:=by
 have a:0<w+ -d:=by grind
 exact⟨Ju a (by grind),Jt a (by grind)⟩
def xf(a b c:Rat):a*b/c=a*(b/c):=by
 rw[Rat.div_def,Rat.div_def,Rat.mul_assoc]
def Rb{L}(h1:400000<=L)(h2:L<=700000):1<=iL D8 L/\iL D8 L<=5:=by
 obtain⟨a,b⟩:=Jv h1 h2;have e:iL D8 L=mkRat 1 1+pT D8 0*kN L 1/(kN L 1+mkRat (-12000000) 1000000000)+pT D8 2*kN L 1/(kN L 1+mkRat (-56000000) 1000000000)+pT D8 4*kN L 1/(kN L 1+mkRat (-0) 1000000000):=rfl;rw[e,Nj,Q8,show pT D8 0=1559/1000 from by decide+kernel,show pT D8 2=285/1000 from by decide+kernel,show pT D8 4=0 from by decide+kernel,show mkRat (-12000000) 1000000000= -(12/1000)from by decide+kernel,show mkRat (-56000000) 1000000000= -(56/1000)from by decide+kernel,xf,xf,xf,eU];obtain⟨c1,c2⟩:=Jw (w:=tS L) (d:=12/1000) a (by decide+kernel) (by decide+kernel);obtain⟨c,f⟩:=Jw (w:=tS L) (d:=56/1000) a (by decide+kernel) (by decide+kernel);generalize tS L/(tS L+ -(12/1000))=u at*;generalize tS L/(tS L+ -(56/1000))=v at*;clear e a b;constructor<;>grind
def Rc{L}(h1:400000<=L)(h2:L<=700000):1<=iL Cg L/\iL Cg L<=4:=by
 obtain⟨a,b⟩:=Jv h1 h2;obtain⟨c,d⟩:=Nk a b;have e:iL Cg L=pT Cg 0+pT Cg 1*kN L 1+pT Cg 2*kN L (1-((2:Nat):Int))+pT Cg 3*kN L (1-((3:Nat):Int))+pT Cg 4*kN L (1-((4:Nat):Int))+pT Cg 5*kN L (1-((5:Nat):Int)):=rfl;rw[e,Q8,Q9,show pT Cg 0=13/5 from by decide+kernel,show pT Cg 1= -(9/1000)from by decide+kernel,show pT Cg 2=22/1000 from by decide+kernel,show pT Cg 3=0 from by decide+kernel,show pT Cg 4=0 from by decide+kernel,show pT Cg 5=0 from by decide+kernel,eU,eU,eU];generalize 1/tS L=u at*;generalize tS L=w at*;clear e;constructor<;>grind
def KJ{g}(c:g∈np){L}(h1:400000<=L)(h2:L<=700000):g.Far L:=by
 obtain⟨a,b⟩:=Jv h1 h2;intro hf i hi;simp only[np,aS,bi,cR]at c
 obtain rfl|rfl|rfl:=c
 .exact absurd hf (by decide)
 .rw[Q8]
  refine Ni ?_
  match i,hi with
  |0,_=>rw[show mkRat (-(D8.co (2*0+1))) 1000000000= -(12/1000)from by decide+kernel];grind
  |1,_=>rw[show mkRat (-(D8.co (2*1+1))) 1000000000= -(56/1000)from by decide+kernel];grind
  |2,_=>rw[show mkRat (-(D8.co (2*2+1))) 1000000000=0 from by decide+kernel];grind
 .exact absurd hf (by decide)
def zK{g:jQ}(h:∀x∈ [g.c0,g.c1,g.c2,g.c3,g.c4,g.c5],-1000000000000<=x/\x<=1000000000000):g.In:=by
 intro i
 match i with
 |0=>exact h _ (by simp[jQ.co])
 |1=>exact h _ (by simp[jQ.co])
 |2=>exact h _ (by simp[jQ.co])
 |3=>exact h _ (by simp[jQ.co])
 |4=>exact h _ (by simp[jQ.co])
 |i+5=>exact h _ (by simp[jQ.co])
def EP{g}(a:g∈np):g.Ok/\g.lo=300000/\g.hi=2500000:=by
 simp only[np,aS,bi,cR]at a
 obtain rfl|rfl|rfl:=a
 .refine⟨⟨by decide+kernel,by decide+kernel,by decide+kernel,by decide+kernel,by decide+kernel,by decide+kernel,by decide+kernel,by decide+kernel,zK (by decide+kernel),fun h=>absurd h (by decide+kernel),fun _=>by decide+kernel⟩,rfl,rfl⟩
 .refine⟨⟨by decide+kernel,by decide+kernel,by decide+kernel,by decide+kernel,by decide+kernel,by decide+kernel,by decide+kernel,by decide+kernel,zK (by decide+kernel),fun _=>by decide+kernel,fun h=>absurd h (by decide+kernel)⟩,rfl,rfl⟩
 .refine⟨⟨by decide+kernel,by decide+kernel,by decide+kernel,by decide+kernel,by decide+kernel,by decide+kernel,by decide+kernel,by decide+kernel,zK (by decide+kernel),fun h=>absurd h (by decide+kernel),fun h=>absurd h (by decide+kernel)⟩,rfl,rfl⟩
def PC(A):∃S,S*S<=A/\A<(S+1)*(S+1):=by
 induction A with
 |zero=>exact⟨0,by omega,by omega⟩
 |succ A a=>
  obtain⟨S,h1,h2⟩:=a
  by_cases h:A+1<(S+1)*(S+1)
  .exact⟨S,by omega,h⟩
  .refine⟨S+1,by omega,?_⟩
   have:(S+1+1)*(S+1+1)=(S+1)*(S+1)+2*(S+1)+1:=by simp only[Nat.mul_add,dB];omega
   omega
structure Sx (g:jQ) (L:Int) (A S:Nat):Prop where
 sq:0<=(iL g L).num
 rt:g.form=2->0<=(mr g L 3).num
 fl:∃x:Nat,(iL g L*mkRat 400000000000000 1).num=(x:Int)/\x/(iL g L*mkRat 400000000000000 1).den=A
 a0:0<A
 s1:S*S<=A
 s2:A<(S+1)*(S+1)
 lo:19999999<=S
 hi:S<=80000000
def HJ{g L}(h1:1<=iL g L)(n:iL g L<=5)(k:g.form=2->0<=mr g L 3):∃A S,Sx g L A S:=by
 have h0:0<=iL g L:=by grind
 have c:iL g L*mkRat 400000000000000 1=iL g L*400000000000000:=by rw[show mkRat 400000000000000 1=400000000000000 from by decide+kernel]
 have f:((400000000000000:Int):Rat)<=iL g L*mkRat 400000000000000 1:=by rw[c,ft];grind
 have e:iL g L*mkRat 400000000000000 1<((2000000000000001:Int):Rat):=by rw[c,ft];grind
 have d:0<=iL g L*mkRat 400000000000000 1:=by rw[c];grind
 have i:0<=(iL g L*mkRat 400000000000000 1).num:=fR.2 d;have f1:=Rat.le_floor_iff.2 f;have b:=Rat.floor_lt_iff.2 e;rw[Rat.floor_def]at f1 b;obtain⟨x,l⟩:=Int.eq_ofNat_of_zero_le i;have a:(iL g L*mkRat 400000000000000 1).num=(x:Int):=l;rw[a]at f1 b;rw[<- Int.natCast_ediv]at f1 b
 have m:400000000000000<=x/(iL g L*mkRat 400000000000000 1).den:=by omega
 have g2:x/(iL g L*mkRat 400000000000000 1).den<2000000000000001:=by omega
 obtain⟨S,s1,s2⟩:=PC (x/(iL g L*mkRat 400000000000000 1).den);refine⟨_,S,fR.2 h0,fun h=>fR.2 (k h),⟨x,a,rfl⟩,by omega,s1,s2,?_,?_⟩
 .refine Nat.le_of_not_lt fun j=>?_
  have:=cB (show S+1<=19999999 by omega) (show S+1<=19999999 by omega);omega
 .refine Nat.le_of_not_lt fun j=>?_
  have:=cB (show 80000000<=S by omega) (show 80000000<=S by omega);omega
def KL{g}(d:g∈np){L}(h1:400000<=L)(h2:L<=700000):∃A S,Sx g L A S:=by
 simp only[np,aS,bi,cR]at d
 obtain rfl|rfl|rfl:=d
 .obtain⟨a,b⟩:=Ra h1 h2
  obtain⟨c,_⟩:=EO h1 h2;exact HJ a (by grind) (fun _=>by grind)
 .obtain⟨a,b⟩:=Rb h1 h2
  exact HJ a b (fun h=>absurd h (by decide+kernel))
 .obtain⟨a,b⟩:=Rc h1 h2
  exact HJ a (by grind) (fun h=>absurd h (by decide+kernel))
def rP(z:Int):Bool:=decide (-9223372036854775808<=z/\z<=9223372036854775807)
def Re(w:World)(z:Int)(a:Ending)(w':World):Prop:=a=.returned (.tuple #[.int .i64 (if rP z then z else 0),.int .i64 (if rP z then 0 else 6)])/\Below w w w'
def PD{x y}:decide (oG x y<0)=decide (x<y):=by
 unfold oG
 by_cases h:x<y
 .simp[h]
 .rw[aj h,aw h]
  by_cases h2:y<x<;>simp[h2]
def PE{x y}:decide (0<oG x y)=decide (y<x):=by
 unfold oG
 by_cases h:x<y
 .rw[aq h,aw (by omega:¬y<x)];rfl
 .rw[aj h]
  by_cases h2:y<x<;>simp[h2]
def zL(s:Bool)(u k:Nat):Int:=if s then -((u/1000000000^k:Nat):Int)else((u/1000000000^k:Nat):Int)
def Nl(s u):zL s u (ip u).length=0:=by
 unfold zL;rw[eO (sb u)];cases s<;>rfl
def KM(u j):u/1000000000^j=u/1000000000^(j+1)*1000000000+u/1000000000^j%1000000000:=by
 rw[bM,<- eX];have:=dc (u/1000000000^j) 1000000000;omega
def zM(s z a n c)(w:World)(h:LG w w s a n c z):
 Calls prog 159 #[.agg #[s,Z a n c]] w (Re w z):=by
 have r:=TL w (.cells #[s,Z a n c] 221);have b1:Below w w (w.alloc (.cells #[s,Z a n c] 221)):=(TH _ _).alloc (aa _) _;have W:=h.go b1;have y:=O r;have Hs:=O h.1;have a5:=O b1;have t:=O W;clear h r b1 W
 go_enter func159,ntmps159
 go_wp2_with fail
 refine(rN s z a n c _ t).mono ?_;rintro e w1 ⟨rfl,N⟩;have X:=t.go N;have B:=(N.block w (by simp)).trans y;have H:=O X;have a8:=O B;have a6:=O (a5.trans (N.mono a5.size));clear X B N
 go_wp2_with fail
 refine(oT (-9223372036854775808) _ (by omega) (by omega)).mono ?_;rintro e w2 ⟨s2,a2,n2,c2,rfl,c1,P,-⟩;have a0:=H.go P;have c9:=(P.block w (TK a8)).trans a8;have b6:=O c1;have K:=O a0;have M:=O c9;have a7:=O (a6.trans (P.mono a6.size));clear c1 a0 c9 P
 go_wp2_with fail
 refine(oT 9223372036854775807 _ (by omega) (by omega)).mono ?_;rintro e C ⟨s3,a3,n3,c3,rfl,c4,Q,-⟩;have l:=Q.trans ((iH (w:=C) (.cells #[s2,Z a2 n2 c2] 221) (.cells #[s3,Z a3 n3 c3] 221)).mono Q.size);have a1:=K.go l;have S:=b6.go l;have T:=c4.go (iH (w:=C) (.cells #[s2,Z a2 n2 c2] 221) (.cells #[s3,Z a3 n3 c3] 221));obtain⟨e4,e5⟩:=iN C (.cells #[s2,Z a2 n2 c2] 221) (.cells #[s3,Z a3 n3 c3] 221);have d0:=a7.trans (l.mono a7.size);have b9:w.heap.size<C.heap.size:=ab (TK M) Q.size;have m:((C.alloc (.cells #[s2,Z a2 n2 c2] 221)).alloc (.cells #[s3,Z a3 n3 c3] 221)).heap[w.heap.size]? =some (.cells #[s,Z a n c] 221 (0,0)):=(l.block w (TK M)).trans M;obtain⟨p1,p2,-,-⟩:=gQ m;obtain⟨p3,p4,-,-⟩:=gQ e4;obtain⟨p5,p6,-,-⟩:=gQ e5;have u:=O a1;have E:=O S;have F:=O T;have a9:=O d0;have q:=O m;have b5:=O b9;have E5:=O e5;clear a1 S T d0 m l c4 Q b9 e4 e5 K M b6 a7 H a8 a6 t a5 y
 go_wp2_with fail
 refine(uy s s2 z (-9223372036854775808) a a2 n n2 c c2 _ u E).mono ?_;rintro e w4 ⟨rfl,p⟩;have b2:=(p.block w (by have:=b5.out;simp;omega)).trans q;have b8:=(p.block (C+1) (by simp)).trans E5;obtain⟨q1,q2,-,-⟩:=gQ b2;obtain⟨q5,q6,-,-⟩:=gQ b8;have x:=O (u.go p);have b4:=O (F.go p);have b0:=O (a9.trans (p.mono a9.size));have d3:=O b2;have d2:=O (ab (show w.heap.size<((C.alloc (.cells #[s2,Z a2 n2 c2] 221)).alloc (.cells #[s3,Z a3 n3 c3] 221)).heap.size by have:=b5.out;simp;omega) p.size);clear p b2 b8 p1 p2 p3 p4 p5 p6 u E F a9 q;have c7:=@PD z (-9223372036854775808)
 by_cases g:z< -9223372036854775808
 .rw[aP g]at c7
  have o:=O g;clear g
  go_wp2_with fail
  go_ret2;have hf:rP z=false:=aw (by have:=o.out;omega);refine⟨?_,b0⟩;rw[hf];rfl
 .rw[aw g]at c7
  have o:=O g;clear g
  go_wp2_with fail
  refine(uy s s3 z 9223372036854775807 a a3 n n3 c c3 _ x b4).mono ?_;rintro e w5 ⟨rfl,R⟩;have c0:=(R.block w d2).trans d3;obtain⟨r1,r2,-,-⟩:=gQ c0;have d1:=b0.trans (R.mono b0.size);have a4:=(x.go R).2.1;have b7:=O d1;have L:=O a4;clear R c0 d1 a4 q1 q2 q5 q6;have c8:=@PE z 9223372036854775807
  by_cases d:9223372036854775807<z
  .rw[aP d]at c8
   have f:=O d;clear d
   go_wp2_with fail
   go_ret2;have hf:rP z=false:=aw (by have:=f.out;omega);refine⟨?_,b7⟩;rw[hf];rfl
  .rw[aw d]at c8
   have hf:rP z=true:=aP (by have:=o.out;omega);have f:=O d;clear d;have c5:=L.len;have d4:=O c5;clear c5;have d8:=x.2.2;have Hf:=O hf;clear hf
   go_wp2_with fail
   go_loop [6,7] (fun v i=>∃k:Nat,k<=n/\i=.int .i64 ((k:Int)-1)/\v=.int .i64 (zL s z.natAbs k)) (fun _ i=>(intOf i+1).toNat)
   case atStart=>exact⟨n,aa _,rfl,by rw[d4,Nl]⟩
   case round=>
    obtain⟨k,hk,rfl,rfl⟩:=hrel
    by_cases d6:k=0
    .subst d6
     rw[show((0:Nat):Int)-1= -1 from rfl]
     have hv:zL s z.natAbs 0=z:=by
      unfold zL;rw[dT,Nat.div_one,Hs]
      by_cases h:z<0<;>simp[h] <;>omega
     rw[hv];clear hv
     go_wp2_with fail
     go_ret2;refine⟨?_,b7⟩;rw[Hf];rfl
    .obtain⟨j,rfl⟩:∃j,k=j+1:=⟨k-1,by omega⟩
     rw[show((j+1:Nat):Int)-1=(j:Int)by omega];obtain⟨b,off,rfl,hb,hc⟩:=L.at (by omega:0<n);have d5:=hc j (by omega);rw[Ca]at d5;have c6:=KM z.natAbs j;have d7:z.natAbs/1000000000^j<=z.natAbs:=dp _ _
     have d9:z.natAbs<=9223372036854775808:=by have:=o.out;have:=f.out;omega
     have b3:s=false->z.natAbs<=9223372036854775807:=by
      intro hs;have:=Hs.out;have:=f.out;subst hs;have:=of_decide_eq_false this.symm;omega
     have B:zL s z.natAbs (j+1)=if s then -((z.natAbs/1000000000^(j+1):Nat):Int)else((z.natAbs/1000000000^(j+1):Nat):Int):=rfl
     have r:zL s z.natAbs j=if s then -((z.natAbs/1000000000^j:Nat):Int)else((z.natAbs/1000000000^j:Nat):Int):=rfl
     rw[B];clear B hc;generalize z.natAbs/1000000000^j%1000000000=D at*;generalize z.natAbs/1000000000^(j+1)=A at*;rw[c6]at r d7;have y:=O r;clear r c6 hb
     cases s with
     |false=>
      have e0:=b3 rfl
      have hA:(A:Int)*1000000000+D<=9223372036854775807:=by omega
      clear b3;simp only[bC,de]
      go_wp2_with fail
      go_round
      case rel=>
       refine⟨j,by omega,rfl,?_⟩;rw[y];simp only[bC,de];rw[et,bW];rfl
      case measure=>simp[intOf]
     |true=>
      have hA:(A:Int)*1000000000+D<=9223372036854775808:=by omega
      clear b3;simp only[bX]
      go_wp2_with fail
      go_round
      case rel=>
       refine⟨j,by omega,rfl,?_⟩;rw[y];simp only[bX]
       congr 1
       omega
      case measure=>simp[intOf]
def tV(z:Int):∃y,y=z:=⟨z,rfl⟩
def KP{g}(a:g.In){L}(h:0<L)(h2:L<=2500000)(hf:g.Far L):Sz 91 (iL g L):=by
 unfold iL;split
 .exact((uB a h h2 3 (by omega)).mul (uB a h h2 3 (by omega))).mono (by omega)
 .split
  .rename_i e1;exact(Di a h h2 (hf e1) 3 (by omega)).mono (by omega)
  .exact(GX a h h2 6 (by omega)).mono (by omega)
def HZ(g L w)(hg:g.Ok)(h1:g.lo<=L)(h2:L<=g.hi)(b9:g.Far L)(A S)(hi:Sx g L A S):
 Calls prog 116 #[.agg #[g.nm,g.form,g.c0,g.c1,g.c2,g.c3,g.c4,g.c5,g.lo,g.hi],L] w (iZ w (.tuple #[.int .i64 (((S+1)/2:Nat):Int),oZ])):=by
 have hq:Nd (w.alloc (.cells #[g.nm,g.form,g.c0,g.c1,g.c2,g.c3,g.c4,g.c5,g.lo,g.hi] 168)) w g:=TL w _;have s:=(TH w w).alloc (aa _) (.cells #[g.nm,g.form,g.c0,g.c1,g.c2,g.c3,g.c4,g.c5,g.lo,g.hi] 168)
 have i1:0<L:=by have:=hg.lo;omega
 have i2:L<=2500000:=by have:=hg.hi;omega
 have g0:=KP hg.co i1 i2 b9;have i7:=uB hg.co i1 i2 3 (by omega);have Hq:=O hq;have d5:=O s;have HG:=O hg;have j3:=O b9;have F:=O hi;clear hq s hg b9 hi
 go_enter func116,ntmps116
 go_upto_region 1 with fail
 refine jp (fun B=>Nd B w g/\Below w w B) ⟨Hq,d5⟩ ?_;clear Hq d5;rintro w0 ⟨q,j8⟩;obtain⟨z0,z1,z2,z3,z4,z5,z6,z7,z8,z9⟩:=ml q;have l0:=TK q;have Q:=O q;have h0:=O j8;clear q j8
 go_wp2_with fail
 refine(ET g L w0 HG h1 h2 j3).mono ?_;rintro e w1 ⟨s1,a1,m1,c1,b1,k1,d1,rfl,j9,i5⟩;clear z0 z1 z2 z3 z4 z5 z6 z7 z8 z9;have V6:=kG.new j9;have s:=(TH w1 w1).alloc (aa _) (.cells #[s1,Z a1 m1 c1,false,Z b1 k1 d1] 243);have j5:=O V6;have d5:=O (i5.trans (s.mono i5.size));clear j9 V6 s i5
 go_upto_region 2 with fail
 refine jp (fun B=>kG B w1 (iL g L)/\Below w0 w0 B) ⟨j5,d5⟩ ?_;clear j5 d5;rintro w2 ⟨v6,i6⟩;generalize w1.heap.size=g6 at*;have q:=(i6.block _ l0).trans Q;obtain⟨s6,a6,m6,c6,b6,k6,d6,P,f6⟩:=v6;obtain⟨j,x1,x2,x3⟩:=gL P;have l6:=TK P;have Q6:=O P;have F6:=O f6;have h3:=O (h0.trans (i6.mono h0.size));have Q2:=O q;clear P f6 i6 q Q h0
 go_wp2_with fail
 refine(Cd (iL g L) 91 s6 a6 b6 m6 k6 c6 d6 w2 F6 g0 (by omega)).mono ?_;rintro e w3 ⟨rfl,e8⟩
 have l9:¬oG (iL g L).num 0<0:=by
  have:=F.sq;unfold oG;rw[aj (by omega)];split<;>simp
 generalize oG (iL g L).num 0=cz at*;clear j x1 x2 x3;have q:=(e8.block _ (TK Q2)).trans Q2;obtain⟨z0,z1,z2,z3,z4,z5,z6,z7,z8,z9⟩:=ml q;have P:=(e8.block _ l6).trans Q6;obtain⟨j,x1,x2,x3⟩:=gL P;have i:=TK P;have f6:=F6.go e8;have G6:=O f6;have n:=O (h3.trans (e8.mono h3.size));have e4:=O P;have g2:=TK q;have k0:=O q;clear q P f6 e8 F6 Q6 Q2 h3 l6 l0
 by_cases e2:g.form=2
 .have f2:(g.form==2)=true:=by simpa using e2
  have k2:=F.rt e2;have C:=Cc g L w3 HG.co i1 i2;generalize mr g L 3=rr at C i7 k2;rw[e2]at C;have b5:=O C;clear C
  go_wp2_with fail
  refine b5.mono ?_;rintro e l5 ⟨l4,k3,l3,k5,k4,l2,k9,rfl,j6,D⟩;have j4:=O j6;have d:=O D;clear j6 D
  go_wp2_with fail
  refine(Cd rr 37 l4 k3 k4 l3 l2 k5 k9 l5 j4 (i7.mono (by omega)) (by omega)).mono ?_;rintro e l7 ⟨rfl,E⟩
  have l8:¬oG rr.num 0<0:=by
   unfold oG;rw[aj (by omega)];split<;>simp
  generalize oG rr.num 0=cz2 at*;have f:=d.trans (E.mono d.size);have P:=(f.block _ i).trans e4;have q:=(f.block _ g2).trans k0;have j7:=G6.go f;have g7:=n.trans (f.mono n.size);clear k2 i7 b5 j x1 x2 x3 z0 z1 z2 z3 z4 z5 z6 z7 z8 z9 j4 d E f e2 g2 i e4 G6 n k0;obtain⟨z0,z1,z2,z3,z4,z5,z6,z7,z8,z9⟩:=ml q;obtain⟨j,x1,x2,x3⟩:=gL P;have i:=TK P;have g2:=TK q;have G6:=O j7;have n:=O g7;have e4:=O P;clear q P j7 g7;obtain⟨w3,rfl⟩:∃w3:World,w3=l7:=⟨_,rfl⟩
  go_upto_region 6 with fail
  refine ic 8 [6] [(7,8,.cells #[false,oN] 221)] [(0,true),(1,false),(2,false),(3,false),(4,true),(5,true),(6,true)] (by kernel_rfl) (by kernel_rfl) ⟨by simp,by simp,by(simp only[ct];exact⟨⟨by omega,_,rfl,rfl,rfl,fun _ _=>rfl⟩,fun _ h=>by cases h⟩)⟩ (fun _ _ _ _ _ h=>h) (fun _ _ o _ _ h=>by cases o<;>exact h) ?_
  iterate 1
   refine gZ (v:=?_) rfl rfl (by rfl) ?_ ?_;rotate_left
   .intro y hy
    have y0:=(hy.cell (p:=J g6) i).trans j;have y1:=(hy.cell (p:=⟨g6,1,none⟩) i).trans x1;have y2:=(hy.cell (p:=⟨g6,2,none⟩) i).trans x2;have y3:=(hy.cell (p:=⟨g6,3,none⟩) i).trans x3;go_simp
    with_reducible rfl
   try simp only[V]
  clear j x1 x2 x3 z0 z1 z2 z3 z4 z5 z6 z7 z8 z9;refine iK rfl rfl (fun xa b4 K r=>?_);go_simp;refine(pQ 400000000000000 1 xa (by omega) (by omega) (by omega) (by omega)).mono ?_;rintro e wa ⟨s7,a7,m7,c7,b7,k7,d7,rfl,f7,D⟩;refine r _ _ D ?_;clear r K
  try simp only[V]
  have c:=(gJ (k:=1) b4).trans (D.mono (gJ (k:=1) b4).size);have F7:=O f7;have d:=O c;clear f7 c D b4;refine iK rfl rfl (fun xb t K r=>?_);go_simp;refine(nM (iL g L) (mkRat 400000000000000 1) 91 2 s6 s7 a6 b6 a7 b7 m6 k6 c6 d6 m7 k7 c7 d7 xb ((G6.go d).go t) (F7.go t) g0 (Sz.mk (by omega) (by decide) (by decide)) (by omega)).mono ?_;rintro e wb ⟨s8,a8,m8,c8,b8,k8,d8,rfl,f8,E⟩;refine r _ _ E ?_;clear r K
  try simp only[V]
  have z:=t.trans (E.mono t.size);have c:=d.trans (z.mono d.size);have G8:=O f8;have a3:=O c;clear f8 c z E t F7 d;obtain⟨x,hx,g1⟩:=F.fl;have M:Sz 93 (iL g L*mkRat 400000000000000 1):=(g0.mul (Sz.mk (k:=2) (by omega) (by decide) (by decide))).mono (by omega);generalize iL g L*mkRat 400000000000000 1=R at*;refine iK rfl rfl (fun xc N K r=>?_);go_simp;refine(Ce R 93 x s8 a8 b8 m8 k8 c8 d8 xc (G8.go N) M (by omega) hx).mono ?_;rintro e wc ⟨s9,a9,m9,c9,rfl,T,f,-⟩;refine r _ _ f ?_;clear r K
  try simp only[V]
  rw[g1]at T;have z:=N.trans (f.mono N.size);have c:=a3.trans (z.mono a3.size);have G9:=O T;have a4:=O c;clear T c z f N G8 a3
  have l1:(ip A).length<=93:=by
   refine iB (cX ?_ M.1);rw[hx,<- g1,aB];exact dp _ _
  iterate 2
   refine gZ (v:=?_) rfl rfl (by rfl) ?_ ?_;rotate_left
   .intro y hy
    skip;go_simp
    with_reducible rfl
   try simp only[V]
  iterate 1
   refine iy (v:=?_) rfl (by rfl) ?_ ?_;rotate_left
   .intro y
    go_simp
    with_reducible rfl
   try simp only[V]
  refine nV (l:=[_,_]) rfl (fun W w4 hC b2 f3=>?_)
  try simp only[V]
  have f5:w3.heap.size<=W:=hC.1.1.1;have f4:=a4.trans (b2.mono a4.size);have T:=G9.go b2;have hz:td w4 W false none 0 0:=f3;have V8:uO ((w4.setCell (J W) (.bool s9)).setCell ⟨W,1,none⟩ (.slice a9 m9 c9)) W (A:Int):=⟨_,_,_,_,pZ hz,re T hz⟩;obtain⟨j,x1,e0,e1⟩:=gQ hz;have H:=n.trans (f4.mono n.size);have d4:=O V8;have e3:=O (nD (u:=.bool s9) (v:=.slice a9 m9 c9) H (af n.size f5));clear V8 f4 H hz T f5 f3 b2 hC G9 a4 n G6 e4 i g2
  go_upto_region 7 with fail
  refine jp (fun B=>uO B W (A:Int)/\Below w w B) ⟨d4,e3⟩ ?_;clear e0 e1 j x1 d4 e3;rintro w5 ⟨v8,e9⟩;obtain⟨j0,h5,g3,h8,g4,a5⟩:=v8
  have d0:g3<=590:=by have:=mW a5;rw[aB]at this;omega
  obtain⟨j,x1,_,_⟩:=gQ g4;have d2:=O a5;have X:=O e9;clear a5 e9 g4
  go_wp2_with fail
  refine(Cf A S j0 h5 g3 h8 w5 d2 F.a0 F.s1 F.s2 d0).mono ?_;rintro e w6 ⟨j1,h6,i8,h9,rfl,e6,b3⟩;have s:=(TH w6 w6).alloc (aa _) (.cells #[j1,Z h6 i8 h9] 221);have e5:=uO.new e6;have HV:=O e5;have d9:=O (X.trans ((b3.trans (s.mono b3.size)).mono X.size));clear e5 s e6 b3 j x1 d2 X
  go_upto_region 8 with fail
  refine jp (fun B=>uO B w6 (S:Int)/\Below w w B) ⟨HV,d9⟩ ?_;clear HV d9;rintro w7 ⟨v8,f0⟩;obtain⟨j2,h7,i9,i0,g5,b0⟩:=v8;obtain⟨j,x1,_,_⟩:=gQ g5;obtain⟨b,hZ⟩:=tV (S:Int);rw[<- hZ]at b0;have d3:=O b0;have a2:=O f0;clear b0 f0 g5
  go_wp2_with fail
  refine(zM j2 b h7 i9 i0 w7 d3).mono ?_;rintro e w8 ⟨rfl,f1⟩
  have i4:(19999999:Int)<=b:=by have:=F.lo;omega
  have i3:b<=80000000:=by have:=F.hi;omega
  have m:rP b=true:=by unfold rP;exact aP (by omega)
  try rw[aq m,aq m]
  have h4:=O (a2.trans (f1.mono a2.size));clear f1 a2 d3 j x1;clear m;obtain⟨a,hY⟩:=tV ((b+1)/2)
  have r1:¬(80000001:Int) <b:=by omega
  have r2:IntKind.i64.wrap (b+1)=b+1:=TM _ (by omega)
  have r3:(b+1).tdiv 2=a:=by rw[hY];exact bL (by omega)
  have r4:a<=40000000:=by omega
  have r5:10000000<=a:=by omega
  have e7:a=(((S+1)/2:Nat):Int):=by omega
  have g9:=O e7;clear e7;clear i4 i3 hY hZ;have r6:IntKind.i64.wrap a=a:=TM _ (by omega)
  have r7:¬a<10000000:=by omega
  have r8:¬40000000<a:=by omega
  clear r4 r5
  go_wp2_with fail
  refine ar (v:=.tuple #[a,oZ]) ?_ rfl ⟨by rw[g9],h4⟩;simp[results,results116,go_sem]
 .have f2:(g.form==2)=false:=by simpa using e2
  clear e2
  go_upto_region 6 with fail
  refine ic 8 [6] [(7,8,.cells #[false,oN] 221)] [(0,true),(1,false),(2,false),(3,false),(4,true),(5,true),(6,true)] (by kernel_rfl) (by kernel_rfl) ⟨by simp,by simp,by(simp only[ct];exact⟨⟨by omega,_,rfl,rfl,rfl,fun _ _=>rfl⟩,fun _ h=>by cases h⟩)⟩ (fun _ _ _ _ _ h=>h) (fun _ _ o _ _ h=>by cases o<;>exact h) ?_
  iterate 1
   refine gZ (v:=?_) rfl rfl (by rfl) ?_ ?_;rotate_left
   .intro y hy
    have y0:=(hy.cell (p:=J g6) i).trans j;have y1:=(hy.cell (p:=⟨g6,1,none⟩) i).trans x1;have y2:=(hy.cell (p:=⟨g6,2,none⟩) i).trans x2;have y3:=(hy.cell (p:=⟨g6,3,none⟩) i).trans x3;go_simp
    with_reducible rfl
   try simp only[V]
  clear j x1 x2 x3 z0 z1 z2 z3 z4 z5 z6 z7 z8 z9;refine iK rfl rfl (fun xa b4 K r=>?_);go_simp;refine(pQ 400000000000000 1 xa (by omega) (by omega) (by omega) (by omega)).mono ?_;rintro e wa ⟨s7,a7,m7,c7,b7,k7,d7,rfl,f7,D⟩;refine r _ _ D ?_;clear r K
  try simp only[V]
  have c:=(gJ (k:=1) b4).trans (D.mono (gJ (k:=1) b4).size);have F7:=O f7;have d:=O c;clear f7 c D b4;refine iK rfl rfl (fun xb t K r=>?_);go_simp;refine(nM (iL g L) (mkRat 400000000000000 1) 91 2 s6 s7 a6 b6 a7 b7 m6 k6 c6 d6 m7 k7 c7 d7 xb ((G6.go d).go t) (F7.go t) g0 (Sz.mk (by omega) (by decide) (by decide)) (by omega)).mono ?_;rintro e wb ⟨s8,a8,m8,c8,b8,k8,d8,rfl,f8,E⟩;refine r _ _ E ?_;clear r K
  try simp only[V]
  have z:=t.trans (E.mono t.size);have c:=d.trans (z.mono d.size);have G8:=O f8;have a3:=O c;clear f8 c z E t F7 d;obtain⟨x,hx,g1⟩:=F.fl;have M:Sz 93 (iL g L*mkRat 400000000000000 1):=(g0.mul (Sz.mk (k:=2) (by omega) (by decide) (by decide))).mono (by omega);generalize iL g L*mkRat 400000000000000 1=R at*;refine iK rfl rfl (fun xc N K r=>?_);go_simp;refine(Ce R 93 x s8 a8 b8 m8 k8 c8 d8 xc (G8.go N) M (by omega) hx).mono ?_;rintro e wc ⟨s9,a9,m9,c9,rfl,T,f,-⟩;refine r _ _ f ?_;clear r K
  try simp only[V]
  rw[g1]at T;have z:=N.trans (f.mono N.size);have c:=a3.trans (z.mono a3.size);have G9:=O T;have a4:=O c;clear T c z f N G8 a3
  have l1:(ip A).length<=93:=by
   refine iB (cX ?_ M.1);rw[hx,<- g1,aB];exact dp _ _
  iterate 2
   refine gZ (v:=?_) rfl rfl (by rfl) ?_ ?_;rotate_left
   .intro y hy
    skip;go_simp
    with_reducible rfl
   try simp only[V]
  iterate 1
   refine iy (v:=?_) rfl (by rfl) ?_ ?_;rotate_left
   .intro y
    go_simp
    with_reducible rfl
   try simp only[V]
  refine nV (l:=[_,_]) rfl (fun W w4 hC b2 f3=>?_)
  try simp only[V]
  have f5:w3.heap.size<=W:=hC.1.1.1;have f4:=a4.trans (b2.mono a4.size);have T:=G9.go b2;have hz:td w4 W false none 0 0:=f3;have V8:uO ((w4.setCell (J W) (.bool s9)).setCell ⟨W,1,none⟩ (.slice a9 m9 c9)) W (A:Int):=⟨_,_,_,_,pZ hz,re T hz⟩;obtain⟨j,x1,e0,e1⟩:=gQ hz;have H:=n.trans (f4.mono n.size);have d4:=O V8;have e3:=O (nD (u:=.bool s9) (v:=.slice a9 m9 c9) H (af n.size f5));clear V8 f4 H hz T f5 f3 b2 hC G9 a4 n G6 e4 i g2
  go_upto_region 7 with fail
  refine jp (fun B=>uO B W (A:Int)/\Below w w B) ⟨d4,e3⟩ ?_;clear e0 e1 j x1 d4 e3;rintro w5 ⟨v8,e9⟩;obtain⟨j0,h5,g3,h8,g4,a5⟩:=v8
  have d0:g3<=590:=by have:=mW a5;rw[aB]at this;omega
  obtain⟨j,x1,_,_⟩:=gQ g4;have d2:=O a5;have X:=O e9;clear a5 e9 g4
  go_wp2_with fail
  refine(Cf A S j0 h5 g3 h8 w5 d2 F.a0 F.s1 F.s2 d0).mono ?_;rintro e w6 ⟨j1,h6,i8,h9,rfl,e6,b3⟩;have s:=(TH w6 w6).alloc (aa _) (.cells #[j1,Z h6 i8 h9] 221);have e5:=uO.new e6;have HV:=O e5;have d9:=O (X.trans ((b3.trans (s.mono b3.size)).mono X.size));clear e5 s e6 b3 j x1 d2 X
  go_upto_region 8 with fail
  refine jp (fun B=>uO B w6 (S:Int)/\Below w w B) ⟨HV,d9⟩ ?_;clear HV d9;rintro w7 ⟨v8,f0⟩;obtain⟨j2,h7,i9,i0,g5,b0⟩:=v8;obtain⟨j,x1,_,_⟩:=gQ g5;obtain⟨b,hZ⟩:=tV (S:Int);rw[<- hZ]at b0;have d3:=O b0;have a2:=O f0;clear b0 f0 g5
  go_wp2_with fail
  refine(zM j2 b h7 i9 i0 w7 d3).mono ?_;rintro e w8 ⟨rfl,f1⟩
  have i4:(19999999:Int)<=b:=by have:=F.lo;omega
  have i3:b<=80000000:=by have:=F.hi;omega
  have m:rP b=true:=by unfold rP;exact aP (by omega)
  try rw[aq m,aq m]
  have h4:=O (a2.trans (f1.mono a2.size));clear f1 a2 d3 j x1;clear m;obtain⟨a,hY⟩:=tV ((b+1)/2)
  have r1:¬(80000001:Int) <b:=by omega
  have r2:IntKind.i64.wrap (b+1)=b+1:=TM _ (by omega)
  have r3:(b+1).tdiv 2=a:=by rw[hY];exact bL (by omega)
  have r4:a<=40000000:=by omega
  have r5:10000000<=a:=by omega
  have e7:a=(((S+1)/2:Nat):Int):=by omega
  have g9:=O e7;clear e7;clear i4 i3 hY hZ;have r6:IntKind.i64.wrap a=a:=TM _ (by omega)
  have r7:¬a<10000000:=by omega
  have r8:¬40000000<a:=by omega
  clear r4 r5
  go_wp2_with fail
  refine ar (v:=.tuple #[a,oZ]) ?_ rfl ⟨by rw[g9],h4⟩;simp[results,results116,go_sem]
def EQ:pB jQ:=fun _ _ g cs=>cs=g.cells/\g.nm.size<=9223372036854775807
def wl:kR 10 EQ where
 len:=by rintro S w x cs ⟨rfl,_⟩;rfl
 kept:=by rintro S T w w' x cs h _ _;exact h
 one:=by rintro S w x cs ⟨rfl,_⟩ v a;unfold jQ.cells at a;simp only[aS,bi,cR]at a;obtain rfl|rfl|rfl|rfl|rfl|rfl|rfl|rfl|rfl|rfl:=a<;>rfl
def Tryz.infoGls:(prog.info? 168).map (·.size)=some 10:=by kernel_rfl
def Dj{ops a c d w}{Q:Exit->Act->World->Prop}{b o}{g:jQ}(h:w.rangeAt b o g.cells)(e:c.guard=none)(x)(i:c.op=.load 168 x)(j:d.eval x=.pointer (some ⟨b,o,none⟩))(f:wpList prog ops Q a (d.put c.dst (.agg #[g.nm,g.form,g.c0,g.c1,g.c2,g.c3,g.c4,g.c5,g.lo,g.hi])) w):wpList prog ops Q (c::a) d w:=
 wpList_load_mid e 168 x i b o j g.cells _ h underlying168 rfl Tryz.infoGls f
structure Ch (l:List jQ):Prop where
 ok:∀g∈l,g.Ok
 ne:∀(i j:Nat)(x y:jQ),l[i]? =some x->l[j]? =some y->j<i->x.nm.toList≠y.nm.toList
 len:l.length<=40
def wm(l a n c w)(h:RR EQ 10 (fun b=>b<w.heap.size) w a n c l)(s:Ch l):
 Calls prog 113 #[Z a n c] w (iZ w (.bool true)):=by
 have hn:n<=40:=by rw[<- h.1];exact s.len
 have H:=O h;have x:=O s;clear h s
 go_enter func113,ntmps113
 go_wp2_with fail
 go_loopw [3] (fun u wr=>∃i:Nat,i<=n/\u=.int .i64 (i:Int)/\Below w w wr) (fun u _=>n-(intOf u).toNat)
 case atStart=>exact⟨0,by omega,rfl,TH _ _⟩
 case round=>
  obtain⟨i,hi,rfl,C⟩:=hrel;have g:=O C;clear C
  by_cases D:i<n
  .obtain⟨b1,off,y,cs,rfl,hlt,F,⟨rfl,K⟩,t⟩:=(H.go wl g).at D
   have m:=t 0 _ rfl;rw[bE]at m;have R:=O t;have B:=O F;have S:=O m;clear t F m K
   go_wp2_with(first
    |(refine Dj R rfl (.tmp 13) rfl rfl ?_)
    |(refine(zJ y _ (x.ok y (aL B))).mono ?_;rintro e w2 ⟨rfl,o⟩;have A:=O o;clear o))
   obtain⟨k,rfl⟩:∃k:World,k=wr:=⟨_,rfl⟩
   go_loopw [4] (fun v W=>∃j:Nat,j<=i/\v=.int .i64 (j:Int)/\Below k k W) (fun v _=>i-(intOf v).toNat)
   case atStart=>exact⟨0,by omega,rfl,A⟩
   case round=>
    obtain⟨j,hj,rfl,f⟩:=hrel;have m:=(f.cell (p:=⟨b1,off+i*10,none⟩) hlt).trans S;have d:=O f;have P:b1<wr.heap.size:=ab hlt f.size;clear f
    by_cases E:j<i
    .obtain⟨b2,o2,z,X,T,N,L,⟨rfl,M⟩,r⟩:=(H.go wl (I g d)).at (i:=j) (by omega)
     cases T;have z0:=r 0 _ rfl;rw[bE]at z0;have q:=x.ne i j y z B L E
     have Q:(z.nm.toList==y.nm.toList)=false:=by rw[ak];exact fun e=>q e.symm
     clear r L M q
     go_wp2_with fail
     go_quiet (fail)
     go_wp2_with fail
     go_roundw
     case rel=>exact⟨j+1,by omega,by go_num,by first|exact d|exact gV d _⟩
     case measure=>simp[intOf];omega
    .obtain rfl:j=i:=by omega
     go_wp2
     go_roundw
     case rel=>exact⟨j+1,by omega,by go_num,I g d⟩
     case measure=>simp[intOf];omega
  .obtain rfl:i=n:=by omega
   have hd:decide ((i:Int)<=40)=true:=aP (by omega);go_wp2;go_ret;exact⟨by simp<;>omega,g⟩
def Fi(l:List UInt8)(d:Nat):Int:=match li l with
 |none=>0
 |some p=>if p<=d/\rP (wg l*10^(d-p))=true then wg l*10^(d-p)else 0
def Fj(l:List UInt8)(d:Nat):Int:=match li l with
 |none=>5
 |some p=>if p<=d then(if rP (wg l*10^(d-p))=true then 0 else 6)else 5
def Ta:Nat:=5000
attribute [irreducible] Ta
def Rx(w:World)(l:List UInt8)(d:Nat)(a:Ending)(w':World):Prop:=a=.returned (.tuple #[.int .i64 (Fi l d),.int .i64 (Fj l d)])/\Below w w w'
structure GW (w:World):Prop where
 m:∃m,w.cell? (J 5)=some (.int .i64 m)
 tab:Lib.TabIs prog w "internal/strconv.uint64pow10" .u64 Lib.pow10Tab
 rng:∃tp p,w.var? prog "strconv.ErrRange" =some #[.iface tp p]
 sz:14<=w.heap.size
def Tryz.gnTab:((prog.globalNamed "internal/strconv.uint64pow10").any fun g=>decide (g<14))=true:=by kernel_rfl
def Tryz.gnRng:((prog.globalNamed "strconv.ErrRange").any fun g=>decide (g<14))=true:=by kernel_rfl
def Fk{w w':World}(nm)(a:((prog.globalNamed nm).any fun g=>decide (g<14))=true)(h:∀b,b<14->w'.heap[b]? =w.heap[b]?):w'.var? prog nm=w.var? prog nm:=by
 unfold World.var?
 cases hn:prog.globalNamed nm with
 |none=>rfl
 |some g=>
  rw[hn]at a;simp only[eZ,aD]at a;simp only[aO,h g a]
def GW.kept{w w'}(h:GW w)(a:∀b,b<14->w'.heap[b]? =w.heap[b]?)(f:14<=w'.heap.size):GW w':=by
 obtain⟨⟨m,d⟩,c,⟨g,p,e⟩,_⟩:=h;refine⟨⟨m,?_⟩,?_,⟨g,p,?_⟩,f⟩
 .rw[<- d];simp only[World.cell?,a 5 (by omega)]
 .unfold Lib.TabIs at c⊢;rw[Fk _ Tryz.gnTab a];exact c
 .rw[Fk _ Tryz.gnRng a];exact e
def GW.below{w w'}(h:GW w)(a:Below w w w'):GW w':=h.kept (fun b hlt=>a.block b (ab hlt h.sz)) (af h.sz a.size)
def GW.of{B w w'}(h:GW w)(a:Below B w w')(c:14<=B):GW w':=h.kept (fun b hlt=>a.block b (by omega)) (af h.sz a.size)
def lE(l):(bs l).size=l.length:=rfl
def tX(l p w):Calls prog 169 #[.string (bs l),.string (bs p)] w fun e w'=>e=.returned (.string (bs (Lib.trimPrefix l p)))/\w=w':=
 (Tryz.strings_TrimPrefix (bs l) (bs p) w).mono fun _ _ ⟨h1,h2⟩=>⟨h1,h2.symm⟩
def Bl(l c w)(a:c.toNat<128)(b:l.length<=1000000):Calls prog 171 #[.string (bs l),.string ⟨#[c]⟩] w fun e w'=>e=.returned (.string (bs (Lib.trimRightB l c)))/\w=w':=
 (Tryz.strings_TrimRight_one (bs l) c a w (by rw[lE];omega)).mono fun _ _ ⟨h1,h2⟩=>⟨h1,h2.symm⟩
def zY(l)(c:Nat)(w)(a:c<=1000000)(b:l.length<=1000000):Calls prog 25 #[.string (bs l),.int .i64 (c:Int)] w (iZ w (.string (bs (Lib.repeatL l c)))):=
 (Tryz.strings_Repeat (bs l) c w (by omega) (by rw[lE];exact af (cB b a) (by omega)))
def Ny(n:Int)(w)(h0: -9223372036854775808<=n)(h1:n<=9223372036854775807)(a:GW w):Calls prog 128 #[n] w (iZ w (.string (bs (Lib.itoa n)))):=by
 refine(Tryz.strconv_Itoa n h0 h1 w a.tab).mono ?_;rintro e w' ⟨rfl,k,os,rfl⟩;exact⟨rfl,Lib.below_grow _ _ (aa _) k os⟩
def PQ(n):Lib.itoa n=De n:=by
 unfold Lib.itoa De
 by_cases h:n<0
 .rw[aq h,aq h];rfl
 .rw[aj h,aj h,show n.toNat=n.natAbs by omega];rfl
def Bn(l):Lib.trimRightB l 48=mQ l:=rfl
def Af(c):Lib.repeatL [48] c=List.replicate c 48:=by
 induction c with
 |zero=>rfl
 |succ c a=>rw[Lib.repeatL,a];rfl
def sR(l a b):(bs l).extract a b=bs ((l.drop a).take (b-a)):=by
 apply fj
 apply fU
 simp[gu,List.take_drop]
def Ag(z:List UInt8)(k:Nat):List UInt8:=z.take k++(if mQ (z.drop k)=[]then[]else 46::mQ (z.drop k))
def Dw(z k g)(w:World)(l:w.cell? (J g)=some (.string (bs z)))(m:k<=z.length)(n:z.length<=1000000):
 Calls prog 170 #[.int .i64 (k:Int),U g] w fun e w'=>e=.returned (.string (bs (Ag z k)))/\w=w':=by
 have h:(bs z).size=z.length:=rfl
 go_enter func170,ntmps170
 have i:(bs z).extract k z.length=bs (z.drop k):=by rw[sR,aM (by simp)]
 have j:(bs z).extract 0 k=bs (z.take k):=by rw[sR,dW,gk]
 go_wp2_with fail
 refine(Bl (z.drop k) 48 _ (by decide) (by simp;omega)).mono ?_;rintro e o ⟨rfl,rfl⟩;rw[Bn];have a:Ag z k=z.take k++(if mQ (z.drop k)=[]then[]else 46::mQ (z.drop k)):=rfl
 have d:(mQ (z.drop k)).length<=1000000:=by
  unfold mQ;rw[List.length_reverse];refine af (gq _).length_le ?_;simp;omega
 generalize mQ (z.drop k)=T at*
 cases T with
 |nil=>
  rw[aq rfl,bG]at a;have c:=O a;clear a
  go_wp2_with fail
  go_ret;refine⟨?_,rfl⟩;rw[c];rfl
 |cons b T=>
  rw[aj (fJ _ _)]at a;have c:=O a;clear a
  have f:T.length<=1000000:=by simp at d;omega
  go_wp2_with fail
  go_ret;refine⟨?_,rfl⟩
  show Ending.returned (.string (bs (z.take k)++bs [46]++bs (b::T)))=_
  rw[oQ,oQ,c,aC];rfl
def Fr(s:List UInt8)(d:Nat):List UInt8:=List.replicate (d+1-s.length) 48++s
def Ah(s d):rO s d=Ag (Fr s d) ((Fr s d).length-d):=rfl
def Le(l):(mQ l).length<=l.length:=by
 unfold mQ;rw[List.length_reverse];exact af (gq _).length_le (by simp)
def Is(z k):(Ag z k).length<=2*z.length+1:=by
 unfold Ag;rw[al,bn];have h1:=Le (z.drop k);rw[eQ]at h1;split
 .simp;omega
 .rw[aH];omega
def Ai(z):Lib.trimPrefix (De z) [45]=Lib.decDigits z.natAbs:=by
 unfold Lib.trimPrefix De
 by_cases h:z<0
 .rw[aq h];rfl
 .rw[aj h,bD]
  cases hd:Lib.decDigits z.natAbs with
  |nil=>rfl
  |cons b l=>
   have c:ma b=true:=nn z.natAbs b (by rw[hd];exact aG);have a:=Qz c
   have:Lib.hasPrefix (b::l) [45]=false:=by
    show((45:UInt8)==b&&_)=false
    rw[cL];exact Or.inl (ak.2 (fun e=>a e.symm))
   rw[this];rfl
def Aj(z)(d:Nat)(w)(hd:d<=18)(hz:(Lib.decDigits z.natAbs).length<=100):
 Calls prog 127 #[.string (bs (De z)),.int .i64 (d:Int)] w (iZ w (.string (bs (iz z d)))):=by
 have t:=Ai z
 have F:(if z<0 then[45]else([]:List UInt8)).length<=1:=by split<;>simp
 have l:iz z d=(if z<0 then[45]else[])++rO (Lib.decDigits z.natAbs) d:=by rw[EF];rfl
 have c:De z=(if z<0 then[45]else[])++Lib.decDigits z.natAbs:=rfl;generalize Lib.decDigits z.natAbs=D at*;generalize(if z<0 then[45]else([]:List UInt8))=M at*;have hM:M.length<=1:=F
 have hl:((De z).length:Int)-(D.length:Int)=(M.length:Int):=by rw[c,al];omega
 have e2:(bs (De z)).extract 0 M.length=bs M:=by rw[sR,c,dW,gk,List.take_left'];rfl
 have T:(De z).length<=101:=by rw[c,al];omega
 have C:=O t;have q:=O l;have S:=O c;clear t l c
 go_enter func127,ntmps127
 go_wp2_with fail
 refine(tX _ [45] _).mono ?_;rintro e w1 ⟨rfl,rfl⟩;rw[C]
 go_wp2_with fail
 have c0:(w.alloc (.cells #[.string (bs D)] 9)).cell? (J (w.heap.size))=some (.string (bs D)):=World.cell?_alloc_at _ _ _ _ rfl
 have i:w.heap.size<(w.alloc (.cells #[.string (bs D)] 9)).heap.size:=by simp
 have u:Below w w (w.alloc (.cells #[.string (bs D)] 9)):=(TH _ _).alloc (aa _) _;have j:=TL w (.cells #[.string (bs D)] 9);generalize(w.alloc (.cells #[.string (bs D)] 9))=w0 at*;have n:=O u;have f:=O j;clear u j;refine gS 9 [(0,true),(1,true),(2,true),(3,true),(4,true),(5,true),(7,true),(6,false),(8,true)] (by kernel_rfl) (by kernel_rfl) ?_
 iterate 7
  refine gU (v:=?_) rfl (fun _ _ _ h=>h) (by rfl) ?_ ?_;rotate_left
  .intro x H
   have z1:=(H.cell (p:=J (w.heap.size)) i).trans c0;go_simp
   with_reducible rfl
  try simp only[V]
 refine gP rfl rfl (fun Q s=>?_);go_simp
 have em:max (IntKind.i64.wrap (IntKind.i64.wrap ((d:Int)+1)-(D.length:Int))) 0=((d+1-D.length:Nat):Int):=by
  rw[TM ((d:Int)+1) (by omega),TM _ (by omega)];omega
 rw[em];refine(zY [48] (d+1-D.length) _ (by omega) (by simp)).mono ?_;rintro e L ⟨rfl,o⟩;rw[Af];refine s _ _ o ?_;clear s Q
 try simp only[V]
 have g:=gJ (k:=1) o;have N:bs (List.replicate (d+1-D.length) 48)++bs D=bs (Fr D d):=oQ _ _
 have a1:(List.replicate (d+1-D.length) (48:UInt8)).length<=19:=by rw[dr];omega
 have a0:(Fr D d).length<=119:=by unfold Fr;rw[al];omega
 have P:d<=(Fr D d).length:=by unfold Fr;rw[al,dr];omega
 have y:=Ah D d;have r:=O y;clear y;generalize List.replicate (d+1-D.length) (48:UInt8)=R at*;generalize Fr D d=Zq0 at*;have m:=O g;clear o g em
 have X:¬9223372036854775807<R.length+D.length:=by omega
 refine gU (v:=?_) rfl (fun _ _ _ h=>h) (by rfl) ?_ ?_;rotate_left
 .intro x H
  go_simp
  with_reducible rfl
 try simp only[V]
 refine iu rfl ?_;have a:=(m.block w i).trans f;have f1:=gD a 0;have k0:=gA a 0;have K:L.cell? (J (w.heap.size))=some (.string (bs D)):=k0.trans rfl;have b:=gG a 0 (.string (bs Zq0));have k1:(L.setCell (J (w.heap.size)) (.string (bs Zq0))).cell? (J (w.heap.size))=some (.string (bs Zq0)):=(gA b 0).trans rfl;have B:=O k1;have E:=O ((n.trans (m.mono n.size)).setCell (p:=J (w.heap.size)) (aa _) (.string (bs Zq0)))
 have W:∀(fn:Fn)(first cap:Array Value)(w:World),(Instr.makeFunc fn first cap).run prog w=.ok (.func fn first cap) w:=fun _ _ _ _=>rfl
 have a3:((Zq0.length:Int)-(d:Int))=((Zq0.length-d:Nat):Int):=by omega
 clear k1 k0 c0 a b f n m
 go_wp2_with fail
 refine(Dw Zq0 (Zq0.length-d) w _ B (by omega) (by omega)).mono ?_;rintro e w4 ⟨rfl,rfl⟩;rw[<- r]
 have a2:(rO D d).length<=300:=by
  rw[r];have h1:=Is Zq0 (Zq0.length-d);omega
 generalize rO D d=Uq0 at*
 have A:bs M++bs Uq0=bs (iz z d):=by rw[oQ,q]
 clear f1 K
 go_wp2_with fail
 go_ret;exact⟨rfl,E⟩
def It{z}(h1: -9223372036854775808<=z)(h2:z<=9223372036854775807):(Lib.decDigits z.natAbs).length<=100:=
 af (EI (nu z h1 h2) (by omega)) (by omega)
def Fs(z:Int)(d:Nat)(w)(h1: -9223372036854775808<=z)(h2:z<=9223372036854775807)(i:d<=18)(j:GW w):
 Calls prog 80 #[z,.int .i64 (d:Int)] w (iZ w (.tuple #[.string (bs (iz z d)),oZ])):=by
 have k:¬(d:Int) <0:=by omega
 have l:¬18<(d:Int):=by omega
 have hi:=Ny z w h1 h2 j;rw[PQ]at hi;have h:=O hi;clear hi
 go_enter func80,ntmps80
 go_wp2_with fail
 refine h.mono ?_;rintro e m ⟨rfl,b⟩;have a:=O b;clear b;have g:=It h1 h2
 go_wp2_with fail
 refine(Aj z d _ i g).mono ?_;rintro e n ⟨rfl,c⟩;have f:=O (a.trans (c.mono a.size));clear c
 go_wp2_with fail
 go_ret2;exact⟨rfl,f⟩
def nP:Nat->Option Nat->Int->List UInt8->Option Nat×Int
 |_,pt,last,[]=>(pt,last)
 |i,pt,last,c::r=>
  if c=46/\pt=none/\0<i then nP (i+1) (some i) 46 r
  else if ma c then nP (i+1) pt (c.toNat:Int) r else(pt,32)
def tj(d:Int)(w:List UInt8):Int:=match w.getLast? with
 |none=>d
 |some b=>(b.toNat:Int)
def rg:∀(w r:List UInt8)(i:Nat)(d:Option Nat)(a:Int),w.all ma=true->nP i d a (w++r)=nP (i+w.length) d (tj a w) r
 |[],r,i,d,a,_=>rfl
 |c::w,r,i,d,a,h=>by
  rw[fh,am]at h
  have f:c≠46:=by have:=Qy h.1;exact ak.1 this
  rw[bF,nP,aj (fun e=>f e.1),aq h.1,rg w r (i+1) d _ h.2,aH];rw[show i+1+w.length=i+(w.length+1)by omega]
  congr 1
  unfold tj
  cases w with
  |nil=>rfl
  |cons b w=>rw[gh];cases hh:(b::w).getLast? with
   |none=>simp at hh
   |some x=>rfl
def Cp{i b a c r}(h1:¬(c=46/\b=none/\0<i))(h2:ma c=false):nP i b a (c::r)=(b,32):=by
 rw[nP,aj h1,h2];rfl
def Ak(x:Int):Bool:=decide (48<=x/\x<=57)
def PR{b}(h:ma b=true):Ak (b.toNat:Int)=true:=by
 have:=bZ h;exact aP (by omega)
def yb(t:List UInt8)(q:Option Nat×Int):Option Nat:=
 let a:List UInt8:=match q.1 with
  |none=>t
  |some p=>t.take p
 if Ak q.2=false\/(q.1≠none/\q.2=48)then none
 else if 1<a.length/\a.head?=some 48 then none
 else some (match q.1 with
  |none=>0
  |some p=>t.length-p-1)
def yd{w}(hw:w.all ma=true)(a:w≠[])(d):Ak (tj d w)=true:=by
 unfold tj
 cases h:w.getLast? with
 |none=>exact absurd (fV.1 h) a
 |some b=>exact PR (an.1 hw b (List.mem_of_getLast? h))
def Al{w}(a:w≠[])(d):tj d w=48↔w.getLast?=some 48:=by
 unfold tj
 cases h:w.getLast? with
 |none=>exact absurd (fV.1 h) a
 |some b=>
  simp only[bA];constructor
  .intro e;exact fN.1 (by show b.toNat=48;omega)
  .intro e;rw[e];rfl
def Lf(t):yb t (nP 0 none 32 t)=we t:=by
 have a:t=t.takeWhile ma++t.dropWhile ma:=(dX).symm;have hw:(t.takeWhile ma).all ma=true:=eF;unfold we;simp only[];generalize hW:t.takeWhile ma=w at*;generalize hR:t.dropWhile ma=r at*
 have y:∀b m,r=b::m->ma b=false:=by
  intro b m e;have:=fZ ma t;rw[hR,e]at this;simpa using this
 have z:nP 0 none 32 t=nP w.length none (tj 32 w) r:=by
  have:=rg w r 0 none 32 hw;rw[<- a,aV]at this;exact this
 rw[z]
 cases r with
 |nil=>
  rw[bG]at a;subst a;rw[nP];unfold yb;simp only[]
  by_cases j:t=[]
  .subst j;rfl
  .have h1:¬(Ak (tj 32 t)=false\/((none:Option Nat)≠none/\tj 32 t=48)):=by
    rw[yd hw j];simp
   rw[aj h1]
   by_cases d:1<t.length/\t.head?=some 48
   .rw[aq d,aq (Or.inr d)]
   .rw[aj d,aj (fun e=>e.elim j d)]
 |cons b f=>
  have v:=y b f rfl
  by_cases h:b=46/\0<w.length
  .obtain⟨rfl,n⟩:=h
   have j:w≠[]:=fun e=>by rw[e]at n;simp at n
   rw[nP,aq ⟨rfl,rfl,n⟩]
   have k:t.take w.length=w:=by rw[a];simp
   have s:t.length-w.length-1=f.length:=by rw[a,al,aH];omega
   by_cases hf:f.all ma=true
   .have h2:=rg f [] (w.length+1) (some w.length) 46 hf
    rw[bG]at h2;rw[h2,nP];unfold yb;simp only[k,s]
    by_cases i:f=[]
    .subst i
     have:Ak (tj 46 [])=false:=rfl;rw[aq (Or.inl this)]
     by_cases d:w=[]\/(1<w.length/\w.head?=some 48)
     .rw[aq d]
     .rw[aj d,aj (fun e=>e.2.1 rfl)]
    .rw[yd hf i]
     by_cases o:f.getLast?=some 48
     .have:tj 46 f=48:=(Al i 46).2 o
      rw[aq (Or.inr ⟨by simp,this⟩)]
      by_cases d:w=[]\/(1<w.length/\w.head?=some 48)
      .rw[aq d]
      .rw[aj d,aj (fun e=>e.2.2.2 o)]
     .have:¬tj 46 f=48:=fun e=>o ((Al i 46).1 e)
      rw[aj (by simp[this])]
      by_cases d:1<w.length/\w.head?=some 48
      .rw[aq d,aq (Or.inr d)]
      .rw[aj d,aj (fun e=>e.elim j d),aq ⟨trivial,i,hf,o⟩]
   .have q:∃u,nP (w.length+1) (some w.length) 46 f=(u,32):=by
     have l:f=f.takeWhile ma++f.dropWhile ma:=(dX).symm
     cases hd:f.dropWhile ma with
     |nil=>
      rw[hd,bG]at l;exact absurd (by rw[l];exact eF) hf
     |cons c g=>
      have x:ma c=false:=by
       have:=fZ ma f;rw[hd]at this;simpa using this
      rw[l,hd,rg _ _ _ _ _ eF,Cp (by simp) x];exact⟨_,rfl⟩
    obtain⟨u,p⟩:=q;rw[p];unfold yb;have:Ak 32=false:=rfl;simp only[this,true_or,bX]
    by_cases d:w=[]\/(1<w.length/\w.head?=some 48)
    .rw[aq d]
    .rw[aj d,aj (fun e=>hf e.2.2.1)]
  .rw[Cp (fun e=>h ⟨e.1,e.2.2⟩) v]
   unfold yb;have:Ak 32=false:=rfl;simp only[this,true_or,bX]
   by_cases d:w=[]\/(1<w.length/\w.head?=some 48)
   .rw[aq d]
   .rw[aj d,aj]
    rintro⟨rfl,_⟩;refine h ⟨rfl,ez.2 (fun e=>d (Or.inl e))⟩
def Iu:Option Nat->Int
 |none=> -1
 |some p=>(p:Int)
def yM(T:List UInt8)(w:World)(d c:Value)(e:World):Prop:=
 ∃b a,nP 0 none 32 T=(b,a)/\d=.int .i64 (Iu b)/\c=.int .i32 a/\(∀p,b=some p->p<T.length)/\0<=a/\a<=255/\Below w w e
def PS(T:List UInt8)(w:World)(d c:Value)(wr:World):Prop:=
 ∃(k:Nat)(b:Option Nat)(a:Int),k<=T.length/\wr=w.iter (bs T) k/\d=.int .i64 (Iu b)/\c=.int .i32 a/\nP k b a (T.drop k)=nP 0 none 32 T/\(∀p,b=some p->p<k)/\0<=a/\a<=255
def JH(l:List UInt8):Int:=match li l with
 |none=>0
 |some p=>(p:Int)
def JI(l:List UInt8):Bool:=(li l).isSome
def Dx(w:World)(l:List UInt8)(e:Ending)(w':World):Prop:=e=.returned (.tuple #[.int .i64 (JH l),.bool (JI l)])/\Below w w w'
def Lg{b l}(a:b≠45):oS (b::l)=(false,b::l):=by
 unfold oS;split
 .rename_i h;cases h;exact absurd rfl a
 .rfl
def wC(l):Lib.trimPrefix l [45]=(oS l).2:=by
 cases l with
 |nil=>rfl
 |cons b l=>
  by_cases a:b=45
  .subst a;rfl
  .have:Lib.hasPrefix (b::l) [45]=false:=by
    show((45:UInt8)==b&&_)=false
    rw[cL];exact Or.inl (ak.2 (fun e=>a e.symm))
   unfold Lib.trimPrefix;rw[this,Lg a];rfl
def JJ{x}(h:x<48\/57<x):Ak x=false:=aw (by omega)
def Dy(T:List UInt8):Option Nat->List UInt8
 |none=>T
 |some p=>T.take p
def JK(T:List UInt8):Option Nat->Nat
 |none=>0
 |some p=>T.length-p-1
def Rz(T b a):yb T (b,a)=if Ak a=false\/(b≠none/\a=48)then none else if 1<(Dy T b).length/\(Dy T b).head?=some 48 then none else some (JK T b):=by
 cases b<;>rfl
def Ft(l w)(hl:l.length<=1000000):Calls prog 225 #[.string (bs l)] w (Dx w l):=by
 have c9:(oS l).2.length<=1000000:=by unfold oS;split<;>simp at hl⊢ <;>omega
 have c0:=wC l;generalize hT:(oS l).2=T at*;have HT:=O hT;have c4:=O c0;clear hT c0;have d8:(bs T).size=T.length:=rfl
 go_enter func225,ntmps225
 go_wp2_with fail
 go_step3
 go_wp2_with fail
 refine(tX l [45] _).mono ?_;rintro e w1 ⟨rfl,rfl⟩;rw[c4]
 go_wp2_with fail
 go_step3
 go_upto_block 0 with fail
 go_cut [5,6] (fun pv lv wx=>yM T w pv lv wx)
 case first=>
  go_wp2_with fail
  go_loopw [5,6] (fun pv lv wr=>PS T w pv lv wr) (fun _ _ wr=>T.length-wr.iterPos w)
  case atStart=>exact⟨0,none,32,aA _,rfl,rfl,rfl,rfl,(fun _ h=>by cases h),by omega,by omega⟩
  case round=>
   obtain⟨k,c,a,hk,rfl,rfl,rfl,g,j,b7,b8⟩:=hrel;have d0:Below w w (w.iter (bs T) k):=(TH _ _).alloc (aa _) _
   by_cases hlt:k<T.length
   .have z:k<(bs T).size:=hlt
    have s:(bs T)[k]=T[k]:=rfl
    have i:T.drop k=T[k]::T.drop (k+1):=by rw[dG hlt]
    by_cases K:T[k].toNat<128
    .have a3:=fun ty=>run_next_ascii (P:=prog) w (bs T) k ty z K
     simp only[s]at a3;rw[i,nP]at g;have S:=O g;have b1:=O j;clear g j s i
     have d2:(0:Int)<=(T[k].toNat:Int):=by omega
     have d3:(T[k].toNat:Int) <128:=by omega
     by_cases d:T[k]=46/\c=none/\0<k
     .have h1:=S.out
      rw[aq d]at h1;obtain⟨hd,rfl,b6⟩:=d
      have hi:((T[k].toNat:Int)==46)=true:=by rw[hd];rfl
      have A:(T[k].toNat:Int)=46:=by rw[hd];rfl
      rw[show Iu none= -1 from rfl];have H1:=O h1;have Q:=O A;clear h1 hd A
      go_wp2_with fail
      go_roundw
      case rel=>exact⟨k+1,some k,46,by omega,rfl,rfl,by rw[Q],H1,fun p o=>by cases o;omega,by omega,by omega⟩
      case measure=>simp[World.iterPos_iter];omega
     .by_cases y:ma T[k]=true
      .have h1:=S.out
       rw[aj d,aq y]at h1;have a7:=bZ y
       have hi:((T[k].toNat:Int)==46)=false:=by simp;omega
       have X:¬(T[k].toNat:Int) <48:=by omega
       have b3:¬57<(T[k].toNat:Int):=by omega
       have H1:=O h1;clear h1 y a7 d
       go_wp2_with fail
       go_roundw
       case rel=>exact⟨k+1,c,_,by omega,rfl,rfl,rfl,H1,fun p o=>by have:=b1 p o;omega,by omega,by omega⟩
       case measure=>simp[World.iterPos_iter];omega
      .have h1:=S.out
       rw[aj d,aj y]at h1
       have a2:¬(48<=T[k].toNat/\T[k].toNat<=57):=fun h=>y (aP h)
       have hcut:yM T w (.int .i64 (Iu c)) (.int .i32 32) (w.iter (bs T) (k+1)):=⟨c,32,h1.symm,rfl,rfl,fun p o=>by have:=b1 p o;omega,by omega,by omega,(TH _ _).alloc (aa _) _⟩;have b:=O hcut;clear h1 hcut y
       by_cases b2:T[k].toNat=46
       .have A:T[k]=46:=fN.1 (by rw[b2];rfl)
        have hi:((T[k].toNat:Int)==46)=true:=by simp;omega
        have X:(T[k].toNat:Int) <48:=by omega
        have a4:=O d;have Q:=O A;clear d A b2 a2
        cases c with
        |some p=>
         rw[show Iu (some p)=(p:Int)from rfl]at b;rw[show Iu (some p)=(p:Int)from rfl]
         have c8:¬(p:Int) <0:=by omega
         go_wp2_with fail
         go_meet;exact b
        |none=>
         have b6:k=0:=by
          obtain h|h:=cM k
          .exact h
          .exact absurd ⟨Q,rfl,h⟩ a4
         rw[show Iu none= -1 from rfl]at b;rw[show Iu none= -1 from rfl]
         have d5:¬(0:Int) <(k:Int):=by omega
         clear b6
         go_wp2_with fail
         go_meet;exact b
       .have hi:((T[k].toNat:Int)==46)=false:=by simp;omega
        clear d
        by_cases X:(T[k].toNat:Int) <48
        .clear a2
         go_wp2_with fail
         go_meet;exact b
        .have b3:57<(T[k].toNat:Int):=by omega
         clear a2
         go_wp2_with fail
         go_meet;exact b
    .have a3:=fun ty=>run_next_any (P:=prog) w (bs T) k ty z
     have a1:=decode_high (bs T) k z (by rw[s];omega);have c6:=decode_le (bs T) k;rw[i,nP,aj (fun e=>K (by rw[e.1];decide)),aj (fun e=>by have:=bZ e;omega)]at g;generalize Utf8.decode (bs T) k=q at*;obtain⟨r,n⟩:=q
     have d7:(128:Int)<=(r:Int):=by have:=a1.1;simp at this;omega
     have hcut:yM T w (.int .i64 (Iu c)) (.int .i32 32) (w.iter (bs T) (k+n)):=⟨c,32,g.symm,rfl,rfl,fun p o=>by have:=j p o;omega,by omega,by omega,(TH _ _).alloc (aa _) _⟩;have b:=O hcut
     have hi:((r:Int)==46)=false:=by simp;omega
     have X:¬(r:Int) <48:=by omega
     have b3:57<(r:Int):=by omega
     clear g hcut j s i a1 c6
     go_wp2_with fail
     go_meet;exact b
   .have a3:=fun ty=>run_next_end (P:=prog) w (bs T) k ty hlt
    rw[gp (by omega),nP]at g;have hcut:yM T w (.int .i64 (Iu c)) (.int .i32 a) (w.iter (bs T) k):=⟨c,a,g.symm,rfl,rfl,fun p o=>by have:=j p o;omega,b7,b8,(TH _ _).alloc (aa _) _⟩;have b:=O hcut;clear g hcut j
    go_wp2_with fail
    go_meet;exact b
 case rest=>
  obtain⟨c,a,g,rfl,rfl,j,b7,b8,b4⟩:=hcut;have hv:=Lf T;rw[g]at hv
  have a0:li l=if l=[45,48]then none else we T:=by rw[<- HT];rfl
  rw[<- hv]at a0;have v:=O a0;have b0:=O b4;clear hv g a0 b4;have hW:∃W P,W=Dy T c/\P=JK T c:=⟨_,_,rfl,rfl⟩;obtain⟨W,P,hW,hP⟩:=hW;have HW:=O hW;have HP:=O hP
  have d1:W.length<=1000000:=by
   rw[hW];cases c with
   |none=>exact c9
   |some p=>simp[Dy];omega
  clear hW hP
  go_upto_if 40 with fail
  go_cut [2,9] (fun v2 v9 wx=>v2=.int .i64 (P:Int)/\v9=.string (bs W)/\wx=wc)
  case first=>
   cases c with
   |none=>
    rw[show Iu none= -1 from rfl]
    go_wp2_with fail
    go_meet;exact⟨by rw[HP];rfl,by rw[HW];rfl,rfl⟩
   |some p=>
    have o:=j p rfl;rw[show Iu (some p)=(p:Int)from rfl]
    have e2:(bs T).extract 0 p=bs (T.take p):=by rw[sR,dW,gk]
    have e3:(T.length:Int)-(p:Int)-1=((T.length-p-1:Nat):Int):=by omega
    have e4:0<=(T.length:Int)-(p:Int):=by omega
    clear j
    go_wp2_with fail
    go_meet;exact⟨by rw[HP];rfl,by rw[HW];rfl,rfl⟩
  case rest=>
   obtain⟨rfl,rfl,rfl⟩:=hcut
   have c1:yb T (c,a)=if Ak a=false\/(c≠none/\a=48)then none else if 1<W.length/\W.head?=some 48 then none else some P:=by
    rw[HW,HP];exact Rz T c a
   have b9:li l=none->Dx w l (.returned (.tuple #[oZ,false])) wc:=fun h=>⟨by unfold JH JI;rw[h];rfl,b0⟩
   have x:=O b9;have D:=O c1;clear b9 c1 HW HP j
   by_cases d6:a<48
   .have u:li l=none:=by
     have h1:=v.out;rw[D,aq (Or.inl (JJ (by omega)))]at h1;rw[h1];split<;>rfl
    have t:=O u;clear u
    go_wp2_with fail
    try rw[dd]
    go_ret2;exact x t
   .by_cases a1:57<a
    .have u:li l=none:=by
      have h1:=v.out;rw[D,aq (Or.inl (JJ (by omega)))]at h1;rw[h1];split<;>rfl
     have t:=O u;clear u
     go_wp2_with fail
     try rw[dd]
     go_ret2;exact x t
    .have b5:Ak a=true:=aP (by omega)
     have c3:=O b5;clear b5
     by_cases hz:c≠none/\a=48
     .have u:li l=none:=by
       have h1:=v.out;rw[D,aq (Or.inr hz)]at h1;rw[h1];split<;>rfl
      obtain⟨o,rfl⟩:=hz
      have c8:0<=Iu c:=by
       cases c with
       |none=>exact absurd rfl o
       |some p=>exact dP p
      have t:=O u;clear u o
      go_wp2_with fail
      try rw[dd]
      go_ret2;exact x t
     .have M:yb T (c,a)=if 1<W.length/\W.head?=some 48 then none else some P:=by
       rw[D,aj];rintro(h|h)
       .rw[c3]at h;cases h
       .exact hz h
      have E:=O M;clear M
      have f:(Iu c<0)\/(0<=Iu c/\(a==48)=false):=by
       cases c with
       |none=>exact Or.inl (by show(-1:Int) <0;omega)
       |some p=>exact Or.inr ⟨dP p,by rw[ak];exact fun e=>hz ⟨by simp,e⟩⟩
      clear hz
      have N:W.length<=1\/(∃h:0<W.length,W[0].toNat≠48)->l≠[45,48]->Dx w l (.returned (.tuple #[.int .i64 (P:Int),true])) wc:=fun hw c7=>by
       have a8:¬(1<W.length/\W.head?=some 48):=by
        rintro⟨h2,h3⟩
        obtain h|⟨h0,h⟩:=hw
        .omega
        .rw[gm,ae h0]at h3
         exact h (by rw[aE h3];rfl)
       have h1:=v.out;rw[aj c7,E,aj a8]at h1;refine⟨?_,b0⟩;unfold JH JI;rw[h1];rfl
      have L:l=[45,48]->li l=none:=fun h=>by
       have h1:=v.out;rw[aq h]at h1;exact h1
      have F:=O N;have C:=O L;clear N L
      by_cases c5:1<W.length
      .have d4:(bs W)[0]'(by show 0<W.length;omega)=W[0]:=rfl
       have c2:0<W.length:=by omega
       by_cases B:W[0].toNat=48
       .have u:li l=none:=by
         have a9:1<W.length/\W.head?=some 48:=⟨c5,by rw[gm,ae c2];exact ai some (fN.1 B)⟩;have h1:=v.out;rw[E,aq a9]at h1;rw[h1];split<;>rfl
        have t:=O u;clear u
        have H:1<(W.length:Int):=by omega
        have a5:((W[0].toNat:Int)==48)=true:=by simp;omega
        obtain hw|⟨hw,hw2⟩:=f
        all_goals
         clear B
         go_wp2_with fail
         try rw[dd]
         go_ret2;exact x t
       .have Hy:=O (F (Or.inr ⟨c2,B⟩))
        have H:1<(W.length:Int):=by omega
        have a5:((W[0].toNat:Int)==48)=false:=by simp;omega
        by_cases m:l=[45,48]
        .have t:=O (C m)
         subst m
         obtain hw|⟨hw,hw2⟩:=f
         all_goals
          clear B
          go_wp2_with fail
          try rw[dd]
          go_ret2;exact x t
        .have R:=O m
         have a6:(l==[45,48])=false:=by rw[ak];exact m
         obtain hw|⟨hw,hw2⟩:=f
         all_goals
          clear B
          go_wp2_with fail
          try rw[dd]
          go_ret2;exact Hy R
      .have Hy:=O (F (Or.inl (by omega)))
       have H:¬1<(W.length:Int):=by omega
       by_cases m:l=[45,48]
       .have t:=O (C m)
        subst m
        obtain hw|⟨hw,hw2⟩:=f
        all_goals
         go_wp2_with fail
         try rw[dd]
         go_ret2;exact x t
       .have R:=O m
        have a6:(l==[45,48])=false:=by rw[ak];exact m
        obtain hw|⟨hw,hw2⟩:=f
        all_goals
         go_wp2_with fail
         try rw[dd]
         go_ret2;exact Hy R
end Go.Proofs.YtgohdcccfkjooaaGreatDoor
