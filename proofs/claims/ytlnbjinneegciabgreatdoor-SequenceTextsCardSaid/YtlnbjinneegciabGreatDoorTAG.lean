import Derived.Test.YtlnbjinneegciabGreatDoorTAD
namespace Go.Proofs.YtlnbjinneegciabGreatDoor
set_option linter.all false
set_option maxRecDepth 100000
set_option maxHeartbeats 1600000
open Go.Proofs.Tryz Go.RowKit
def PB{N:Nat}{w:World}{a:Option Addr}{n c:Nat}{zs:List Int}{g:Nat}{s:Bool}{a':Option Addr}{n' c':Nat}(h:SL N w a n c zs)(l:td w g s a' n' c'):∀b off,a=some ⟨b,off,none⟩->0<n->b≠g:=by
 rintro b off e f rfl;obtain⟨b1,i,d,_,j⟩:=h.at f;rw[e]at d;cases d;have h0:=j 0 f;rw[VV l]at h0
 match hoff:off+0,h0 with
 |0,h0=>simp at h0
 |1,h0=>simp at h0
 |k+2,h0=>simp at h0
def Wr{w:World}{s:Bool}{a:Option Addr}{n c:Nat}{z:Int}{g:Nat}{s':Bool}{a':Option Addr}{n' c':Nat}{u v:Value}(h:LG w w s a n c z)(d:td w g s' a' n' c'):
 LG ((w.setCell (J g) u).setCell ⟨g,1,none⟩ v).heap.size ((w.setCell (J g) u).setCell ⟨g,1,none⟩ v) s a n c z:=by
 have b:=PB h.2.1 d;have:=(h.setCell (J g) u b).setCell ⟨g,1,none⟩ v b;simpa using this
def nD{B:Nat}{w w':World}{g:Nat}{u v:Value}(h:Below B w w')(a:B<=g):Below B w ((w'.setCell (J g) u).setCell ⟨g,1,none⟩ v):=qB (qB h a) a
def uO(w:World)(g:Nat)(z:Int):Prop:=∃s a n c,td w g s a n c/\LG w w s a n c z
def uO.new{w:World}{s:Bool}{a:Option Addr}{n c:Nat}{z:Int}(h:LG w w s a n c z):uO (w.alloc (.cells #[s,Z a n c] 178)) w z:=
 ⟨s,a,n,c,TL w _,h.go ((TH _ _).alloc (ag _) _)⟩
def uO.put{w:World}{g:Nat}{z y:Int}{s:Bool}{a:Option Addr}{n c:Nat}(h:uO w g y)(b:LG w w s a n c z):
 uO ((w.setCell (J g) (.bool s)).setCell ⟨g,1,none⟩ (.slice a n c)) g z:=by
 obtain⟨s',a',n',c',h1,h2⟩:=h;exact⟨s,a,n,c,pZ h1,Wr b h1⟩
def Nf(B:Bool)(x y:Nat)(a b:Option Addr)(n m c d:Nat)(w:World)(u:LG w w B a n c (x:Int))(hb:LG w w false b m d (y:Int))(W:0<y)(T:m<=599):
 Calls prog 134 #[.agg #[B,Z a n c],.agg #[false,Z b m d]] w (tb w ((x/y:Nat):Int)):=by
 have K:B=false:=by rw[u.1];simp
 subst K;have g:=oF w (.cells #[false,Z a n c] 178) (.cells #[false,Z b m d] 178) (.cells #[false,oN] 178);obtain⟨E:HQ _,I1:HQ _,I2:HQ _⟩:=jh w (.cells #[false,Z a n c] 178) (.cells #[false,Z b m d] 178) (.cells #[false,oN] 178);have o:=O (u.go g);have p:=O (hb.go g);have i:=O g;clear u hb g;go_enter func134,ntmps134;go_upto_region 1 with fail;refine jp (fun f=>td f w false a n c/\td f (w+1) false b m d/\td f (w+2) false none 0 0/\LG f f false a n c (x:Int)/\LG f f false b m d (y:Int)/\Below w w f) ⟨E,I1,I2,o,p,i⟩ ?_;clear o p E I1 I2 i;rintro w0 ⟨L,M,t:HQ _,o:HQ _,p:HQ _,Hb0:HQ _⟩;obtain⟨P,x1,_,_⟩:=gQ L;obtain⟨Q,y1,_,_⟩:=gQ M;have X:=TK t;clear L M;go_wp2_with fail;refine(oO false false (x:Int) (y:Int) x y (aB _) (aB _) a b n m c d w0 o p W T).mono ?_;rintro e r ⟨s1,a1,h,c1,s2,a2,A,c2,rfl,h1,h2,k,f1,S⟩;rw[show Bd false false (x/y)=((x/y:Nat):Int)from rfl]at h1
 have H:s2=false:=by rw[h2.1];exact aw (by unfold GN;simp;omega)
 subst H;clear P x1 Q y1 h2 S;obtain⟨C:HQ _,E2:HQ _⟩:=iN r (.cells #[s1,Z a1 h c1] 178) (.cells #[false,Z a2 A c2] 178);have j:=iH (w:=r) (.cells #[s1,Z a1 h c1] 178) (.cells #[false,Z a2 A c2] 178);have D:=O j;have l:=O (h1.go j);have s:=O (k.trans (j.mono k.size));have R:=O f1;clear j h1 k f1;go_upto_region 2 with fail;refine jp (fun f=>td f r s1 a1 h c1/\td f (r+1) false a2 A c2/\LG f f s1 a1 h c1 ((x/y:Nat):Int)/\Below w0 w0 f) ⟨C,E2,l,s⟩ ?_;clear C E2 l s D;rintro w2 ⟨k1,N,l:HQ _,Hb2:HQ _⟩;obtain⟨P,x1,_,_⟩:=gQ k1;obtain⟨Q,y1,_,_⟩:=gQ N;have z:=(Hb2.block _ X).trans t;obtain⟨z0,z1,g0,g1⟩:=gQ z;have F:=O z;clear k1 N z t;go_wp2_with fail;have q:=pZ (s':=s1) (a':=a1) (n':=h) (c':=c1) F;obtain⟨q0,q1,_,_⟩:=gQ q;refine ar (v:=.agg #[s1,Z a1 h c1]) ?_ rfl ?_
 .simp[results,results134,go_sem,q0,q1]
 .exact⟨s1,a1,h,c1,rfl,Wr l F,nD (Hb0.trans (Hb2.mono Hb0.size)) (by omega),R.mono (by have:=Hb0.size;omega)⟩
def Ce(r:Rat)(k x:Nat)(s:Bool)(a b:Option Addr)(n m c d:Nat)(w:World)(h:QL w w s a n c b m d r)(hs:Sz k r)(hk:k<=599)(hx:r.num=(x:Int)):
 Calls prog 93 #[.agg #[s,Z a n c,false,Z b m d]] w (S3 w ((x/r.den:Nat):Int)):=by
 have hm:=h.m hs;obtain⟨i0,i1⟩:=iN w (.cells #[s,Z a n c,false,Z b m d] 180) (.cells #[false,oN] 178);have g:=iH (w:=w) (.cells #[s,Z a n c,false,Z b m d] 180) (.cells #[false,oN] 178);have HQ:=O (h.go g);have D:=O g;have X:=O i0;have I1:=O i1;clear g i0 i1 h;go_enter func93,ntmps93;go_upto_region 1 with fail;refine jp (fun i=>pO i w s a n c false b m d/\td i (w+1) false none 0 0/\QL i i s a n c b m d r/\Below w w i) ⟨X,I1,HQ,D⟩ ?_;clear X I1 HQ D;rintro w0 ⟨q,j,f,K⟩;obtain⟨B,x1,x2,P⟩:=gL q;have l0:=TK q;have l1:=TK j;have F:=O f;have Q:=O q;have t:=O K;have H:=O j;clear f q K j;go_wp2_with fail;refine(mF r s a b n m c d w0 F (by omega)).mono ?_;rintro e N ⟨rfl,l⟩;clear B x1 x2 P;obtain⟨B,x1,x2,P⟩:=gL ((l.block _ l0).trans Q);have f1:=F.go l;have fn:=f1.n;rw[hx]at fn;have L:=O ((l.block _ l1).trans H);have S:=O fn;have R:=O f1.d;have u:=O (t.trans (l.mono t.size));have a0:=O l.size;clear l F t Q H f1 fn;go_wp2_with fail;refine(Nf s x r.den a b n m c d N S R (bq r.den_nz) (by omega)).mono ?_;rintro e p ⟨s2,a2,o,c2,rfl,h2,y,f2⟩;clear B x1 x2 P;have g:=(TH p p).alloc (ag _) (.cells #[s2,Z a2 o c2] 178);have C:=O (show td (p.alloc (.cells #[s2,Z a2 o c2] 178)) p s2 a2 o c2 from TL p _);have T:=O (h2.go g);have E:=O (y.trans (g.mono y.size));have F2:=O f2;have a1:=h2.2.2;clear h2 y f2 g S R;go_upto_region 4 with fail;refine jp (fun i=>td i p s2 a2 o c2/\LG i i s2 a2 o c2 ((x/r.den:Nat):Int)/\Below N N i) ⟨C,T,E⟩ ?_;clear C T E;rintro w3 ⟨k1,h1,z⟩;obtain⟨B,x1,_,_⟩:=gQ k1;have M:=(z.block _ (TK L)).trans L;obtain⟨z0,z1,g0,g1⟩:=gQ M
 have a3:¬(600:Int) <(o:Int):=by omega
 have K2:=O M;have H1:=O h1;have W:=O z;clear k1 h1 z M L;go_wp2_with fail;have A:=pZ (s':=s2) (a':=a2) (n':=o) (c':=c2) K2;obtain⟨q0,q1,_,_⟩:=gQ A;refine ar (v:=.tuple #[.agg #[s2,Z a2 o c2],oZ]) ?_ rfl ?_
 .simp[results,results93,go_sem,q0,q1]
 .exact⟨s2,a2,o,c2,rfl,Wr H1 K2,nD (u.trans (W.mono u.size)) (by omega),F2.mono (by have:=u.size;omega)⟩
def S7(x q:Nat):4*(x*q)<=(x+q)*(x+q):=by
 obtain h|h:=Nat.le_total x q
 .obtain⟨e,rfl⟩:=gg h
  have:(x+(x+e))*(x+(x+e))=4*(x*(x+e))+e*e:=by grind
  omega
 .obtain⟨e,rfl⟩:=gg h
  have:((q+e)+q)*((q+e)+q)=4*((q+e)*q)+e*e:=by grind
  omega
def KH(a x:Nat)(b:0<x):a<((x+a/x)/2+1)*((x+a/x)/2+1):=by
 have h1:a<x*(a/x+1):=Nat.lt_mul_div_succ a b;generalize a/x=q at*;have h2:=S7 x (q+1)
 have h3:x+(q+1)<=2*((x+q)/2+1):=by omega
 generalize(x+q)/2+1=t at*;have c:=cB h3 h3
 have h5:2*t*(2*t)=4*(t*t):=by grind
 omega
def GZ(a x:Nat)(b:0<x)(h:x<=(x+a/x)/2):x*x<=a:=by
 have:x<=a/x:=by omega
 exact(Nat.le_div_iff_mul_le b).1 this
def Ng{a x s:Nat}(h1:x*x<=a)(h2:a<(x+1)*(x+1))(k1:s*s<=a)(b:a<(s+1)*(s+1)):x=s:=by
 obtain h|h|h:=Nat.lt_trichotomy x s
 .have:=cB (show x+1<=s from h) (show x+1<=s from h);omega
 .exact h
 .have:=cB (show s+1<=x from h) (show s+1<=x from h);omega
def HH(a x:Nat)(b:0<a)(c:0<x):0<(x+a/x)/2:=by
 obtain h|h:=dC x 2
 .obtain rfl:x=1:=by omega
  rw[Nat.div_one];omega
 .generalize a/x=q at*
  omega
def Nh{A x k:Nat}(c:A<1000000000^k)(e:x<=1000000000^(k/2+1))(d:1<=k)(a:k<=590):(ip (x+A/x)).length<=600:=by
 refine af (iB (k:=k+2) ?_) (by omega);have h1:A/x<=A:=dp _ _;have h2:(1000000000:Nat)^(k/2+1)<=1000000000^(k+1):=zH (by omega);have h3:(1000000000:Nat)^(k+2)=1000000000^(k+1)*1000000000:=bM _ _;have b:(1000000000:Nat)^(k+1)=1000000000^k*1000000000:=bM _ _;omega
def KI(A S:Nat)(s:Bool)(a:Option Addr)(n c:Nat)(w:World)(h:LG w w s a n c (A:Int))(h0:0<A)(hS:S*S<=A)(f0:A<(S+1)*(S+1))(hn:n<=590):
 Calls prog 138 #[.agg #[s,Z a n c]] w (QW w (S:Int)):=by
 have u:=mW h;rw[aB]at u
 have j9:s=false:=by rw[h.1];simp
 subst j9
 have k7:n≠0:=fun e=>by rw[e]at u;have:=jC.1 u.symm;omega
 have e9:A<1000000000^n:=by have:=Wu A;rw[<- u]at this;exact this
 obtain⟨i0,i1⟩:=iN w (.cells #[false,Z a n c] 178) (.cells #[false,oN] 178);have d:=iH (w:=w) (.cells #[false,Z a n c] 178) (.cells #[false,oN] 178);have HL:=O (h.go d);have d6:=O d;have I0:=O i0;have I1:=O i1;have b1:=O e9;have h6:=O u;have HS:=O hS;have g9:=O f0;clear d i0 i1 h e9 u hS f0;go_enter func138,ntmps138;go_upto_region 1 with fail;refine jp (fun b=>td b w false a n c/\td b (w+1) false none 0 0/\LG b b false a n c (A:Int)/\Below w w b) ⟨I0,I1,HL,d6⟩ ?_;clear I0 I1 HL d6;rintro w0 ⟨m,o,f,f1⟩;obtain⟨L,x1,_,_⟩:=gQ m;have l0:=TK m;have l1:=TK o;have N:=O m;have P:=O o;have F:=O f;have b2:=O f1;clear m o f f1
 have j6:((n:Int)==0)=false:=by simp;omega
 have i7:IntKind.i64.wrap ((n:Int).tdiv 2)=((n/2:Nat):Int):=by
  rw[bL (by omega),TM _ (by omega)];omega
 have i8:IntKind.i64.wrap (((n/2:Nat):Int)+2)=((n/2+2:Nat):Int):=by
  rw[TM _ (by omega)];omega
 go_wp2_with(refine oE rfl (.tmp 18) (.tmp 18) 109 rfl underlying109 _ (n/2+2) rfl rfl (by omega) (by omega) ?_)
 intro w1 p f2;have d7:=O (show Below w0 w0 w1 from f2);clear f2 L x1 i7 i8 j6;have j2:∃j,n/2+2=j+1/\j=n/2+1:=⟨n/2+1,rfl,rfl⟩;obtain⟨j,hj,g1⟩:=j2;rw[hj]at p
 try rw[hj]
 have D:=O g1;have j5:IntKind.i64.wrap (j:Int)=(j:Int):=TM _ (by omega)
 have d1:IntKind.i64.wrap (((j+1:Nat):Int)-1)=(j:Int):=by rw[TM _ (by omega)];omega
 have j4:(j:Int) <(j:Int)+1:=by omega
 have M:=p.cell (j:=j) (by simp);have y1:=p.free j;have f7:=p.set j (by simp) 1;have K:Below w0 w0 (w1.setCell ⟨w0.heap.size,j,none⟩ (.int .i64 1)):=qB d7 (ag _)
 have c0:((List.replicate (j+1) (0:Int)).set j 1).length=j+1:=by simp
 have g5:val ((List.replicate (j+1) (0:Int)).set j 1)=((1000000000^j:Nat):Int):=by
  rw[Jj (by simp),uQ];simp
 have g4:ms ((List.replicate (j+1) (0:Int)).set j 1):=by
  intro i hi;rw[ah,cF];by_cases e:j=i
  .subst e;simp
  .rw[aj e]
   by_cases i9:i<j+1
   .simp[eR,i9]
   .simp at hi;omega
 have z:=f7.sl (c:=j+1) (by rw[c0];exact ag _);rw[c0]at z;generalize(List.replicate (j+1) (0:Int)).set j 1=zs at*;have E:=O z;have b7:=O g5;have e5:=O g4;have K0:=O ((K.block _ l0).trans N);have K1:=O ((K.block _ l1).trans P);have Fz:=O (F.go K);have e3:=O (b2.trans (K.mono b2.size));clear p f7 g1 K z g5 g4 N P F b2 d7 hj;go_upto_region 5 with fail;refine jp (fun b=>td b w false a n c/\td b (w+1) false none 0 0/\LG b b false a n c (A:Int)/\SL b b (J (w0.heap.size)) (j+1) (j+1) zs/\Below w w b) ⟨K0,K1,Fz,E,e3⟩ ?_;clear K0 K1 Fz E e3 M y1 j4 j5 d1;rintro w2 ⟨m,o,fz,z,f3⟩;generalize w0.heap.size=g at*;have l0:=TK m;have l1:=TK o;have N:=O m;have P:=O o;have F:=O fz;have E:=O z;have b3:=O f3;clear m o fz z f3;go_wp2_with fail;refine(nl false zs ((1000000000^j:Nat):Int) _ (j+1) (j+1) w2 E e5 (by have:=D.out;omega) (by rw[b7,aI];exact af (iB (k:=j+1) (Nat.pow_lt_pow_right (by omega) (by omega))) (by have:=D.out;omega)) (by rw[b7];rfl)).mono ?_;rintro e w3 ⟨s3,a3,n3,c3,rfl,h3,W,-⟩;have d5:=O (uO.new h3);have d:=(TH w3 w3).alloc (ag _) (.cells #[s3,Z a3 n3 c3] 178);have l:=O (W.trans (d.mono W.size));have e4:=O W.size;clear d W h3 E
 have j3:j+1<=599:=by have:=D.out;omega
 have e8:A<(1000000000^j+1)*(1000000000^j+1):=by
  have h1:=b1.out;have h2:(1000000000:Nat)^n<=1000000000^(j+j):=zH (by have:=D.out;omega);rw[dm]at h2;have h3:=cB (bY (1000000000^j)) (bY (1000000000^j));exact eb h1 (af h2 h3)
 have g0:0<(1000000000:Nat)^j:=cy (by omega);have k6:w.heap.size+1<w3.heap.size:=eb l1 e4;have K0:=O ((l.block _ l0).trans N);have K1:=O ((l.block _ l1).trans P);have Fz:=O (F.go l);have t:=O (b3.trans (l.mono b3.size));have i3:=O (fun(x:Nat)(hx:x<=1000000000^j)=>Nh (x:=x) b1 (by rw[<- D];exact hx) (by omega) hn);have i6:=O (fun(x:Nat)(hx:x<=1000000000^j)=>show(ip x).length<=599 from af (iB (k:=j+1) (cX hx (Nat.pow_lt_pow_right (by omega) (by omega)))) j3);clear N P F b3 l b1 h6 b7 e5 c0 l0 l1 e4;generalize(1000000000:Nat)^j=X at*;go_wp2
 go_loopg [] X (fun k wr=>∃x:Nat,uO wr w3 (x:Int)/\td wr w false a n c/\td wr (w+1) false none 0 0/\LG wr wr false a n c (A:Int)/\0<x/\A<(x+1)*(x+1)/\x<=X/\x<=k/\Below w w wr)
 case atStart=>exact⟨X,d5,K0,K1,Fz,g0,e8,ag _,ag _,t⟩
 case round=>
  clear K0 K1 Fz d5 t e8 g0;obtain⟨x,v4,m,o,f,b0,g2,g3,k8,f8⟩:=hrel;obtain⟨s4,a4,T,c4,r,f4⟩:=v4
  have k0:s4=false:=by rw[f4.1];simp
  subst k0;obtain⟨L,x1,_,_⟩:=gQ m;obtain⟨M,y1,_,_⟩:=gQ r
  have j7:T<=599:=by have:=mW f4;rw[aB]at this;rw[this];exact i6 x g3
  have c1:=O (i3 x g3);have l0:=TK m;have l1:=TK o;have l4:=TK r;have i4:=O (KH A x b0);have i2:=O (HH A x h0 b0);have h4:=O (GZ A x b0);have N:=O m;have P:=O o;have F:=O f;have Q4:=O r;have F4:=O f4;have t:=O f8;have i5:=O g2;clear m o f r f4 f8 g2;go_wp2_with fail;refine(oO false false (A:Int) (x:Int) A x (aB _) (aB _) a a4 n T c c4 _ (by exact F) (by exact F4) b0 j7).mono ?_;rintro e w5 ⟨s5,a5,n5,c5,s6,a6,n6,c6,rfl,h5,-,b8,-,-⟩;rw[show Bd false false (A/x)=((A/x:Nat):Int)from rfl]at h5;generalize A/x=q at*;obtain⟨e1,e2⟩:=iN w5 (.cells #[s5,Z a5 n5 c5] 178) (.cells #[s6,Z a6 n6 c6] 178);have d:=iH (w:=w5) (.cells #[s5,Z a5 n5 c5] 178) (.cells #[s6,Z a6 n6 c6] 178);have E1:=O e1;have H5:=O (h5.go d);have d8:=O (b8.trans (d.mono b8.size));clear e1 e2 h5 b8 d L x1 M y1;go_upto_region 7 with fail;refine jp (fun b=>td b w5 s5 a5 n5 c5/\LG b b s5 a5 n5 c5 ((q:Nat):Int)/\Below wr wr b) ⟨E1,H5,d8⟩ ?_;clear E1 H5 d8;rintro w6 ⟨k5,h5,a0⟩;obtain⟨L,x1,_,_⟩:=gQ k5;have r:=(a0.block _ l4).trans Q4;obtain⟨M,y1,_,_⟩:=gQ r;have d3:=O (F4.go a0);have H5:=O h5;have b4:=O a0;clear k5 h5 a0 r;go_wp2_with fail;refine(EJ false s5 (x:Int) ((q:Nat):Int) a4 a5 T n5 c4 c5 _ (by exact d3) (by exact H5) (by rw[show((x:Int)+((q:Nat):Int)).natAbs=x+q by omega];exact c1)).mono ?_;rintro e w7 ⟨s7,a7,n7,c7,rfl,Q,f5⟩;have H7:=O Q;have b5:=O (b4.trans (f5.mono b4.size));clear Q f5 b4 H5 d3 L x1 M y1;go_wp2_with fail;refine(oT 2 _ (by omega) (by omega)).mono ?_;rintro e w8 ⟨s8,a8,n8,c8,rfl,h8,b9,-⟩
  have k2:s8=false:=by rw[h8.1];rfl
  subst k2;have Q:=H7.go b9;rw[show(x:Int)+((q:Nat):Int)=((x+q:Nat):Int)by omega]at Q
  have k1:s7=false:=by rw[Q.1];simp<;>omega
  subst k1
  have j8:n8<=599:=by have:=mW h8;rw[this];exact af (iB (k:=1) (by decide)) (by omega)
  have d4:=O Q;have H8:=O h8;have b6:=O (b5.trans (b9.mono b5.size));clear Q h8 b9 b5 H7;go_wp2_with fail;refine(oO false false ((x+q:Nat):Int) 2 (x+q) 2 (aB _) rfl a7 a8 n7 n8 c7 c8 _ (by exact d4) (by exact H8) (by omega) j8).mono ?_;rintro e w9 ⟨s9,a9,n9,c9,g7,e6,g6,e7,rfl,h9,-,f6,-,-⟩;rw[show Bd false false ((x+q)/2)=(((x+q)/2:Nat):Int)from rfl]at h9;obtain⟨e1,e2⟩:=iN w9 (.cells #[s9,Z a9 n9 c9] 178) (.cells #[g7,Z e6 g6 e7] 178);have d:=iH (w:=w9) (.cells #[s9,Z a9 n9 c9] 178) (.cells #[g7,Z e6 g6 e7] 178);have B:=b6.trans (f6.mono b6.size);have E1:=O e1;have H9:=O (h9.go d);have d9:=O (B.trans (d.mono B.size));clear e1 e2 h9 f6 d B d4 H8 b6;generalize(x+q)/2=y at*;go_upto_region 8 with fail;refine jp (fun b=>td b w9 s9 a9 n9 c9/\LG b b s9 a9 n9 c9 (y:Int)/\Below wr wr b) ⟨E1,H9,d9⟩ ?_;clear E1 H9 d9;rintro wa ⟨R,h9,a1⟩;obtain⟨L,x1,_,_⟩:=gQ R;have r:=(a1.block _ l4).trans Q4;obtain⟨M,y1,_,_⟩:=gQ r;have l9:=TK R;have G4:=O (F4.go a1);have K9:=O R;have H9:=O h9;have e0:=O a1;clear R h9 a1 r;go_wp2_with fail;refine(uy s9 false (y:Int) (x:Int) a9 a4 n9 T c9 c4 wa H9 G4).mono ?_;rintro e wb ⟨rfl,a2⟩;clear L x1 M y1;have H:=e0.trans (a2.mono e0.size);have R:=(a2.block _ l9).trans K9;have r:=(H.block _ l4).trans Q4;have o:=(H.block _ l1).trans P;obtain⟨L,x1,_,_⟩:=gQ R;obtain⟨M,y1,y2,y3⟩:=gQ r;obtain⟨z0,z1,z2,z3⟩:=gQ o;have g8:=O (H9.go a2);have B4:=O (F4.go H);have BJ:=O o;have d2:=O r;have l:=O H;clear H R r o a2 H9 G4 K9;by_cases k4:x<=y
  .have f9:decide (0<=oG (y:Int) (x:Int))=true:=by
    unfold oG;rw[aj (by omega)];split<;>simp
   have d0:¬oG (y:Int) (x:Int) <0:=by simpa using f9
   generalize oG (y:Int) (x:Int)=cz at*;go_wp2_with fail;have c2:=pZ (s':=false) (a':=a4) (n':=T) (c':=c4) BJ;obtain⟨q0,q1,_,_⟩:=gQ c2;have k3:x=S:=Ng (h4 k4) i5 HS g9;refine ar (v:=.agg #[false,Z a4 T c4]) ?_ rfl ?_
   .simp[results,results138,go_sem,q0,q1]
   .rw[<- k3]
    exact⟨false,a4,T,c4,rfl,Wr B4 BJ,nD (t.trans (l.mono t.size)) (by omega)⟩
  .have C:oG (y:Int) (x:Int)= -1:=by unfold oG;rw[aq (by omega)]
   have d0:oG (y:Int) (x:Int) <0:=by rw[C];decide
   have f9:decide (0<=oG (y:Int) (x:Int))=false:=by rw[C];rfl
   clear C;generalize oG (y:Int) (x:Int)=cz at*;go_wp2
   go_roundg y
   case measure=>omega
   case rel=>
    have V4:uO wb w3 (x:Int):=⟨_,_,_,_,d2,B4⟩;have m:=(l.block _ l0).trans N;have f:=F.go l;exact⟨y,V4.put g8,qi (by omega) m,qi (by omega) BJ,Wr f d2,i2,i4,by omega,ag _,nD (t.trans (l.mono t.size)) (by omega)⟩
def St(w:World)(z:Int)(e:Ending)(w':World):Prop:=
 ∃s a n c,e=.returned (.tuple #[.agg #[.bool s,Z a n c],oZ])/\LG w' w' s a n c z/\Below w w w'
def Cf(A S:Nat)(s:Bool)(a:Option Addr)(n c:Nat)(w:World)(h:LG w w s a n c (A:Int))(h0:0<A)(M:S*S<=A)(q:A<(S+1)*(S+1))(X:n<=590):
 Calls prog 96 #[.agg #[s,Z a n c]] w (St w (S:Int)):=by
 have N:s=false:=by rw[h.1];simp
 subst N;obtain⟨P,Q⟩:=iN w (.cells #[false,Z a n c] 178) (.cells #[false,oN] 178);have g:=iH (w:=w) (.cells #[false,Z a n c] 178) (.cells #[false,oN] 178);have z:=O (h.go g);have m:=O g;have D:=O P;have E:=O Q;have W:=O M;have B:=O q;clear g P Q h M q;go_enter func96,ntmps96;go_upto_region 1 with fail;refine jp (fun j=>td j w false a n c/\td j (w+1) false none 0 0/\LG j j false a n c (A:Int)/\Below w w j) ⟨D,E,z,m⟩ ?_;clear D E z m;rintro w0 ⟨l,t,f,r⟩;obtain⟨y,x1,_,_⟩:=gQ l;have l0:=TK l;have l1:=TK t;have H:=O l;have K:=O t;have F:=O f;have d:=O r;clear l t f r;go_wp2_with fail;refine(rN false (A:Int) a n c w0 F).mono ?_;rintro e w1 ⟨rfl,b⟩;clear y x1;obtain⟨y,x1,_,_⟩:=gQ ((b.block _ l0).trans H);have R:=O (F.go b);have p:=O ((b.block _ l1).trans K);have o:=O (d.trans (b.mono d.size));clear b H K F d;go_wp2_with fail;refine(KI A S false a n c w1 R h0 W B X).mono ?_;rintro e w2 ⟨s2,a2,x,c2,rfl,h2,i⟩;have u:=(i.block _ (TK p)).trans p;obtain⟨z0,z1,g0,g1⟩:=gQ u;have L:=O u;have T:=O h2;have C:=O (o.trans (i.mono o.size));clear u h2 i y x1;go_wp2_with fail;have k:=pZ (s':=s2) (a':=a2) (n':=x) (c':=c2) L;obtain⟨q0,q1,_,_⟩:=gQ k;refine ar (v:=.tuple #[.agg #[s2,Z a2 x c2],oZ]) ?_ rfl ?_
 .simp[results,results96,go_sem,q0,q1]
 .exact⟨s2,a2,x,c2,rfl,Wr T L,nD C (by omega)⟩
structure jQ.Ok (g:jQ):Prop where
 nm:kI g.nm=true
 sz:g.nm.size<=9223372036854775807
 mir:(g.nm.toList==[77,73,82,82,79,82])=false
 lo:300000<=g.lo
 lh:g.lo<=g.hi
 hi:g.hi<=2500000
 f1:1<=g.form
 f3:g.form<=3
 co:g.In
 sel:g.form=1-> ∀i,i<6->i%2=1->1000*g.co i<g.lo*g.lo
 cau:g.form=2-> ∀i,i<6->2<i->g.co i=0
def zJ(g:jQ)(w:World)(A:g.Ok):
 Calls prog 88 #[.agg #[g.nm,g.form,g.c0,g.c1,g.c2,g.c3,g.c4,g.c5,g.lo,g.hi]] w (iZ w (.bool true)):=by
 have s:=O (show Nd (w.alloc (.cells #[g.nm,g.form,g.c0,g.c1,g.c2,g.c3,g.c4,g.c5,g.lo,g.hi] 115)) w g from TL w _);have l:=O ((TH w w).alloc (ag _) (.cells #[g.nm,g.form,g.c0,g.c1,g.c2,g.c3,g.c4,g.c5,g.lo,g.hi] 115));have a:=O A;clear A;go_enter func88,ntmps88;go_upto_region 1 with fail;refine jp (fun F=>Nd F w g/\Below w w F) ⟨s,l⟩ ?_;clear s l;rintro w0 ⟨Q:HQ _,Hb0:HQ _⟩;obtain⟨z0,H,K,L,M,N,P,R,S,T⟩:=ml Q;have l0:=TK Q;go_wp2_with fail;refine(pA g.nm w0 a.sz).mono ?_;rintro e w1 ⟨rfl,f⟩;have hn:=a.nm;have q:=(f.block _ l0).trans Q;clear z0 H K L M N P R S T;obtain⟨z0,H,K,L,M,N,P,R,S,T⟩:=ml q;have v:=O q;have p:=O (Hb0.trans (f.mono Hb0.size));have j:=a.mir
 have E:¬g.lo<300000:=by have:=a.lo;omega
 have D:¬g.hi<g.lo:=by have:=a.lh;omega
 have B:¬2500000<g.hi:=by have:=a.hi;omega
 have y:¬g.form<1:=by have:=a.f1;omega
 have z:¬3<g.form:=by have:=a.f3;omega
 clear q f Hb0 Q;go_upto_region 3 with fail;clear hn j E D B y z;have l1:=TK v;have a3:0<=g.lo*g.lo:=eH (by have:=a.lo;omega) (by have:=a.lo;omega);have X:g.lo*g.lo<=2500000*2500000:=eI (by have:=a.lh;have:=a.hi;omega) (by have:=a.lh;have:=a.hi;omega) (by have:=a.lo;omega) (by omega);have a4:IntKind.i64.wrap (g.lo*g.lo)=g.lo*g.lo:=TM _ (by omega);go_wp2
 go_loopw [3,4] (fun o cv wr=>(∃k:Nat,o=.int .i64 (k:Int)/\k<=6)/\wr=w1) (fun o _ _=>6-(intOf o).toNat)
 case atStart=>exact⟨⟨0,rfl,by omega⟩,rfl⟩
 case round=>
  obtain⟨⟨k,rfl,hk⟩,rfl⟩:=hrel;by_cases hlt:k<6
  .have u:=EL v (i:=k) hlt
   have hc:=a.co k;have c:=a.sel;have b:=a.cau
   have a2:(k:Int) <6:=by omega
   have a0:¬g.co k< -1000000000000:=by omega
   have a1:¬1000000000000<g.co k:=by omega
   have a5:IntKind.i64.wrap (1000*g.co k)=1000*g.co k:=TM _ (by omega)
   have m:g.form=1->k%2=1-> ¬g.lo*g.lo<=1000*g.co k:=fun h1 h2=>by have:=c h1 k hlt h2;omega
   have r:=O (show g.form=2->2<k->g.co k=0 from fun h1 h2=>b h1 k hlt h2);have t:=O m;clear c b m hc;generalize g.co k=ck at*;by_cases f1:g.form=1
   .have b1:(g.form==1)=true:=by simpa using f1
    have b2:(g.form==2)=false:=by rw[f1];rfl
    by_cases n:k%2=1
    .have h:(k:Int).tmod 2=1:=by rw[bu (by omega)];omega
     have W:=t f1 n;clear f1;go_wp2
     go_roundw
     case rel=>exact⟨⟨k+1,by go_num,by omega⟩,trivial⟩
     case measure=>simp[intOf];omega
    .have h:(k:Int).tmod 2=0:=by rw[bu (by omega)];omega
     clear f1;go_wp2
     go_roundw
     case rel=>exact⟨⟨k+1,by go_num,by omega⟩,trivial⟩
     case measure=>simp[intOf];omega
   .have b1:(g.form==1)=false:=by simpa using f1
    by_cases d:g.form=2
    .have b2:(g.form==2)=true:=by simpa using d
     by_cases n:2<k
     .have h:2<(k:Int):=by omega
      have x:=r d n;clear f1 d;subst x;go_wp2
      go_roundw
      case rel=>exact⟨⟨k+1,by go_num,by omega⟩,trivial⟩
      case measure=>simp[intOf];omega
     .have h:¬2<(k:Int):=by omega
      clear f1 d;go_wp2
      go_roundw
      case rel=>exact⟨⟨k+1,by go_num,by omega⟩,trivial⟩
      case measure=>simp[intOf];omega
    .have b2:(g.form==2)=false:=by simpa using d
     clear f1 d;go_wp2
     go_roundw
     case rel=>exact⟨⟨k+1,by go_num,by omega⟩,trivial⟩
     case measure=>simp[intOf];omega
  .have C:k=6:=by omega
   subst C;go_wp2;go_ret;exact⟨rfl,p⟩
def Jt{a b c:Rat}(hb:0<b)(h:a<=c*b):a/b<=c:=by
 rw[<- fS,Rat.lt_div_iff hb,fS];exact h
def Ju{a b c:Rat}(hb:0<b)(h:c*b<=a):c<=a/b:=by
 rw[<- fS,Rat.div_lt_iff hb,fS];exact h
def Ni{r:Rat}(h:0<r):0<r.num:=by
 have:=(Rat.lt_iff 0 r).1 h;simpa using this
def QZ(L:Int):tS L*1000000000000=((L*L:Int):Rat):=by
 unfold tS;rw[Rat.mkRat_eq_div];exact Rat.div_mul_cancel (by decide+kernel)
def Jv{L:Int}(h1:400000<=L)(h2:L<=700000):4/25<=tS L/\tS L<=1/2:=by
 have h:=QZ L;have a:(400000:Int)*400000<=L*L:=eI h1 h1 (by omega) (by omega)
 have h3:(160000000000:Int)<=L*L:=by omega
 have c:L*L<=700000*700000:=eI h2 h2 (by omega) (by omega)
 have b:L*L<=490000000000:=by omega
 have h5:((160000000000:Int):Rat)<=((L*L:Int):Rat):=gi.2 h3;have d:((L*L:Int):Rat)<=((490000000000:Int):Rat):=gi.2 b;rw[<- h]at h5 d;simp only[ft]at h5 d;generalize tS L=w at*;clear h h1 h2 h3 b a c;constructor<;>grind
def Nj:mkRat 1 1=1:=by decide+kernel
def S8(L:Int):kN L (-((0:Nat):Int))=1:=Nj
def Q8(L:Int):kN L 1=tS L:=by
 show mkRat 1 1*tS L=_
 rw[Nj,Rat.one_mul]
def Su(L:Int):kN L (-((1:Nat):Int))=1/tS L:=by
 show mkRat 1 1/tS L=_
 rw[Nj]
def Q9(L:Int):kN L (1-((2:Nat):Int))=1/tS L:=by
 show mkRat 1 1/tS L=_
 rw[Nj]
def Nk{w:Rat}(h1:4/25<=w)(h2:w<=1/2):2<=1/w/\1/w<=25/4:=by
 have h0:0<w:=by grind
 exact⟨Ju h0 (by grind),Jt h0 (by grind)⟩
def AW:jQ:=⟨⟨#[66,75,55]⟩,2,1504600000,4200000,0,0,0,0,300000,2500000⟩
def D8:jQ:=⟨⟨#[83,70,45,49]⟩,1,1559000000,12000000,285000000,56000000,0,0,300000,2500000⟩
def Cg:jQ:=⟨⟨#[102,95,50]⟩,3,2600000000,-9000000,22000000,0,0,0,300000,2500000⟩
def np:List jQ:=[AW,D8,Cg]
def EO{L:Int}(h1:400000<=L)(h2:L<=700000):1<=mr AW L 3/\mr AW L 3<=8/5:=by
 obtain⟨a,b⟩:=Jv h1 h2;obtain⟨c,d⟩:=Nk a b;have e:mr AW L 3=mkRat 0 1+pT AW 0*kN L (-((0:Nat):Int))+pT AW 1*kN L (-((1:Nat):Int))+pT AW 2*kN L (-((2:Nat):Int)):=rfl;rw[e,S8,Su,show mkRat 0 1=0 from by decide+kernel,show pT AW 0=7523/5000 from by decide+kernel,show pT AW 1=21/5000 from by decide+kernel,show pT AW 2=0 from by decide+kernel,eU];generalize 1/tS L=u at*;clear a b e;constructor<;>grind
def Ra{L:Int}(h1:400000<=L)(h2:L<=700000):1<=iL AW L/\iL AW L<=4:=by
 obtain⟨a,b⟩:=EO h1 h2;have e:iL AW L=mr AW L 3*mr AW L 3:=rfl;rw[e];generalize mr AW L 3=r at*
 have h0:0<=r:=by grind
 have c:1*r<=r*r:=fF a h0;have g2:r*r<=8/5*r:=fF b h0;constructor<;>grind
def Jw{w d:Rat}(h1:4/25<=w)(h0:0<=d)(b:d<=7/125):0<=w/(w+ -d)/\w/(w+ -d)<=2:=by
 have a:0<w+ -d:=by grind
 exact⟨Ju a (by grind),Jt a (by grind)⟩
def xf(a b c:Rat):a*b/c=a*(b/c):=by
 rw[Rat.div_def,Rat.div_def,Rat.mul_assoc]
def Rb{L:Int}(h1:400000<=L)(h2:L<=700000):1<=iL D8 L/\iL D8 L<=5:=by
 obtain⟨a,b⟩:=Jv h1 h2;have e:iL D8 L=mkRat 1 1+pT D8 0*kN L 1/(kN L 1+mkRat (-12000000) 1000000000)+pT D8 2*kN L 1/(kN L 1+mkRat (-56000000) 1000000000)+pT D8 4*kN L 1/(kN L 1+mkRat (-0) 1000000000):=rfl;rw[e,Nj,Q8,show pT D8 0=1559/1000 from by decide+kernel,show pT D8 2=285/1000 from by decide+kernel,show pT D8 4=0 from by decide+kernel,show mkRat (-12000000) 1000000000= -(12/1000)from by decide+kernel,show mkRat (-56000000) 1000000000= -(56/1000)from by decide+kernel,xf,xf,xf,eU];obtain⟨c1,c2⟩:=Jw (w:=tS L) (d:=12/1000) a (by decide+kernel) (by decide+kernel);obtain⟨c,f⟩:=Jw (w:=tS L) (d:=56/1000) a (by decide+kernel) (by decide+kernel);generalize tS L/(tS L+ -(12/1000))=u at*;generalize tS L/(tS L+ -(56/1000))=v at*;clear e a b;constructor<;>grind
def Rc{L:Int}(h1:400000<=L)(h2:L<=700000):1<=iL Cg L/\iL Cg L<=4:=by
 obtain⟨a,b⟩:=Jv h1 h2;obtain⟨c,d⟩:=Nk a b;have e:iL Cg L=pT Cg 0+pT Cg 1*kN L 1+pT Cg 2*kN L (1-((2:Nat):Int))+pT Cg 3*kN L (1-((3:Nat):Int))+pT Cg 4*kN L (1-((4:Nat):Int))+pT Cg 5*kN L (1-((5:Nat):Int)):=rfl;rw[e,Q8,Q9,show pT Cg 0=13/5 from by decide+kernel,show pT Cg 1= -(9/1000)from by decide+kernel,show pT Cg 2=22/1000 from by decide+kernel,show pT Cg 3=0 from by decide+kernel,show pT Cg 4=0 from by decide+kernel,show pT Cg 5=0 from by decide+kernel,eU,eU,eU];generalize 1/tS L=u at*;generalize tS L=w at*;clear e;constructor<;>grind
def KJ{g:jQ}(c:g∈np){L:Int}(h1:400000<=L)(h2:L<=700000):g.Far L:=by
 obtain⟨a,b⟩:=Jv h1 h2;intro hf i hi;simp only[np,aS,bi,cR]at c
 obtain rfl|rfl|rfl:=c
 .exact absurd hf (by decide)
 .rw[Q8]
  refine Ni ?_
  match i,hi with
  |0,_=>rw[show mkRat (-(D8.co (2*0+1))) 1000000000= -(12/1000)from by decide+kernel];grind
  |1,_=>rw[show mkRat (-(D8.co (2*1+1))) 1000000000= -(56/1000)from by decide+kernel];grind
  |2,_=>rw[show mkRat (-(D8.co (2*2+1))) 1000000000=0 from by decide+kernel];grind
 .exact absurd hf (by decide)
def zK{g:jQ}(h:∀x∈ [g.c0,g.c1,g.c2,g.c3,g.c4,g.c5],-1000000000000<=x/\x<=1000000000000):g.In:=by
 intro i
 match i with
 |0=>exact h _ (by simp[jQ.co])
 |1=>exact h _ (by simp[jQ.co])
 |2=>exact h _ (by simp[jQ.co])
 |3=>exact h _ (by simp[jQ.co])
 |4=>exact h _ (by simp[jQ.co])
 |i+5=>exact h _ (by simp[jQ.co])
def EP{g:jQ}(a:g∈np):g.Ok/\g.lo=300000/\g.hi=2500000:=by
 simp only[np,aS,bi,cR]at a
 obtain rfl|rfl|rfl:=a
 .refine⟨⟨by decide+kernel,by decide+kernel,by decide+kernel,by decide+kernel,by decide+kernel,by decide+kernel,by decide+kernel,by decide+kernel,zK (by decide+kernel),fun h=>absurd h (by decide+kernel),fun _=>by decide+kernel⟩,rfl,rfl⟩
 .refine⟨⟨by decide+kernel,by decide+kernel,by decide+kernel,by decide+kernel,by decide+kernel,by decide+kernel,by decide+kernel,by decide+kernel,zK (by decide+kernel),fun _=>by decide+kernel,fun h=>absurd h (by decide+kernel)⟩,rfl,rfl⟩
 .refine⟨⟨by decide+kernel,by decide+kernel,by decide+kernel,by decide+kernel,by decide+kernel,by decide+kernel,by decide+kernel,by decide+kernel,zK (by decide+kernel),fun h=>absurd h (by decide+kernel),fun h=>absurd h (by decide+kernel)⟩,rfl,rfl⟩
def PC(A:Nat):∃S,S*S<=A/\A<(S+1)*(S+1):=by
 induction A with
 |zero=>exact⟨0,by omega,by omega⟩
 |succ A a=>
  obtain⟨S,h1,h2⟩:=a;by_cases h:A+1<(S+1)*(S+1)
  .exact⟨S,by omega,h⟩
  .refine⟨S+1,by omega,?_⟩
   have:(S+1+1)*(S+1+1)=(S+1)*(S+1)+2*(S+1)+1:=by simp only[Nat.mul_add,dB];omega
   omega
structure Sx (g:jQ) (L:Int) (A S:Nat):Prop where
 sq:0<=(iL g L).num
 rt:g.form=2->0<=(mr g L 3).num
 fl:∃x:Nat,(iL g L*mkRat 400000000000000 1).num=(x:Int)/\x/(iL g L*mkRat 400000000000000 1).den=A
 a0:0<A
 s1:S*S<=A
 s2:A<(S+1)*(S+1)
 lo:19999999<=S
 hi:S<=80000000
def Zg{g:jQ}{L:Int}(h1:1<=iL g L)(n:iL g L<=5)(k:g.form=2->0<=mr g L 3):∃A S,Sx g L A S:=by
 have h0:0<=iL g L:=by grind
 have c:iL g L*mkRat 400000000000000 1=iL g L*400000000000000:=by rw[show mkRat 400000000000000 1=400000000000000 from by decide+kernel]
 have f:((400000000000000:Int):Rat)<=iL g L*mkRat 400000000000000 1:=by rw[c,ft];grind
 have e:iL g L*mkRat 400000000000000 1<((2000000000000001:Int):Rat):=by rw[c,ft];grind
 have d:0<=iL g L*mkRat 400000000000000 1:=by rw[c];grind
 have i:0<=(iL g L*mkRat 400000000000000 1).num:=fR.2 d;have f1:=Rat.le_floor_iff.2 f;have b:=Rat.floor_lt_iff.2 e;rw[Rat.floor_def]at f1 b;obtain⟨x,l⟩:=Int.eq_ofNat_of_zero_le i;have a:(iL g L*mkRat 400000000000000 1).num=(x:Int):=l;rw[a]at f1 b;rw[<- Int.natCast_ediv]at f1 b
 have m:400000000000000<=x/(iL g L*mkRat 400000000000000 1).den:=by omega
 have g2:x/(iL g L*mkRat 400000000000000 1).den<2000000000000001:=by omega
 obtain⟨S,s1,s2⟩:=PC (x/(iL g L*mkRat 400000000000000 1).den);refine⟨_,S,fR.2 h0,fun h=>fR.2 (k h),⟨x,a,rfl⟩,by omega,s1,s2,?_,?_⟩
 .refine Nat.le_of_not_lt fun j=>?_
  have:=cB (show S+1<=19999999 by omega) (show S+1<=19999999 by omega);omega
 .refine Nat.le_of_not_lt fun j=>?_
  have:=cB (show 80000000<=S by omega) (show 80000000<=S by omega);omega
def KL{g:jQ}(d:g∈np){L:Int}(h1:400000<=L)(h2:L<=700000):∃A S,Sx g L A S:=by
 simp only[np,aS,bi,cR]at d
 obtain rfl|rfl|rfl:=d
 .obtain⟨a,b⟩:=Ra h1 h2
  obtain⟨c,_⟩:=EO h1 h2;exact Zg a (by grind) (fun _=>by grind)
 .obtain⟨a,b⟩:=Rb h1 h2
  exact Zg a b (fun h=>absurd h (by decide+kernel))
 .obtain⟨a,b⟩:=Rc h1 h2
  exact Zg a (by grind) (fun h=>absurd h (by decide+kernel))
def SA(w:World)(r:Rat)(e:Ending)(w':World):Prop:=
 ∃s a n c b m d,e=.returned (.tuple #[.agg #[.bool s,Z a n c,false,Z b m d],oZ])/\QL w' w' s a n c b m d r/\Below w w w'
def ET(g:jQ)(L:Int)(w:World)(M:g.Ok)(h1:g.lo<=L)(h2:L<=g.hi)(c:g.Far L):
 Calls prog 90 #[.agg #[g.nm,g.form,g.c0,g.c1,g.c2,g.c3,g.c4,g.c5,g.lo,g.hi],L] w (SA w (iL g L)):=by
 obtain⟨H:HQ _,I1:HQ _⟩:=iN w (.cells #[g.nm,g.form,g.c0,g.c1,g.c2,g.c3,g.c4,g.c5,g.lo,g.hi] 115) (.cells #[false,oN,false,oN] 180);have m:=O (iH (w:=w) (.cells #[g.nm,g.form,g.c0,g.c1,g.c2,g.c3,g.c4,g.c5,g.lo,g.hi] 115) (.cells #[false,oN,false,oN] 180));have i:=O M;have j:=O c;clear M c;go_enter func90,ntmps90;go_upto_region 1 with fail;refine jp (fun y=>Nd y w g/\pO y (w+1) false none 0 0 false none 0 0/\Below w w y) ⟨H,I1,m⟩ ?_;clear H I1 m;rintro w0 ⟨k:HQ _,J0:HQ _,Hb0:HQ _⟩;have Q:=TK k;have P:=TK J0;obtain⟨z0,d,f,h,z,A,B,C,D,E⟩:=ml k;go_wp2_with fail;refine(zJ g w0 i).mono ?_;rintro e R ⟨rfl,b⟩;clear z0 d f h z A B C D E;obtain⟨z0,d,f,h,z,A,B,C,D,E⟩:=ml ((b.block _ Q).trans k);have o:=O ((b.block _ P).trans J0);have n:=O (Hb0.trans (b.mono Hb0.size))
 have g1:¬L<g.lo:=by omega
 have g2:¬g.hi<L:=by omega
 clear b k J0 Hb0;go_wp2_with fail;have T:=i.lo;have S:=i.hi;refine(GY g L R i.co (by omega) (by omega) j).mono ?_;rintro e w2 ⟨x,p,u,r,q,t,s,rfl,N:HQ _,hb2⟩;clear z0 d f h z A B C D E;have a:=(hb2.block _ (TK o)).trans o;obtain⟨y0,y1,y2,y3⟩:=gL a;have e0:=gD a 0;have W:=gD a 1;have X:=gD a 2;have e3:=gD a 3;have K:=O a;have F:=O (n.trans (hb2.mono n.size));clear a hb2 o;go_wp2_with fail;have l:=kl (s':=x) (a':=p) (n':=u) (c':=r) (t':=false) (b':=q) (m':=t) (d':=s) K;obtain⟨z0,d,f,h⟩:=gL l;refine ar (v:=.tuple #[.agg #[x,Z p u r,false,Z q t s],oZ]) ?_ rfl ?_
 .simp[results,results90,go_sem,z0,d,f,h]
 .exact⟨x,p,u,r,q,t,s,rfl,N.putG K,iR F (bY _)⟩
def EQ:pB jQ:=fun _ _ g cs=>cs=g.cells/\g.nm.size<=9223372036854775807
def wl:kR 10 EQ where
 len:=by rintro S w x cs ⟨rfl,_⟩;rfl
 kept:=by rintro S T w w' x cs h _ _;exact h
 one:=by rintro S w x cs ⟨rfl,_⟩ v a;unfold jQ.cells at a;simp only[aS,bi,cR]at a;obtain rfl|rfl|rfl|rfl|rfl|rfl|rfl|rfl|rfl|rfl:=a<;>rfl
def Tryz.infoGls:(prog.info? 115).map (·.size)=some 10:=by kernel_rfl
def Dj{ops:Array Oper}{a:List Oper}{c:Oper}{d:Act}{w:World}{Q:Exit->Act->World->Prop}{b o:Nat}{g:jQ}(h:w.rangeAt b o g.cells)(e:c.guard=none)(x:Operand)(i:c.op=.load 115 x)
 (j:d.eval x=.pointer (some ⟨b,o,none⟩))(f:wpList prog ops Q a (d.put c.dst (.agg #[g.nm,g.form,g.c0,g.c1,g.c2,g.c3,g.c4,g.c5,g.lo,g.hi])) w):wpList prog ops Q (c::a) d w:=
 wpList_load_mid e 115 x i b o j g.cells _ h underlying115 rfl Tryz.infoGls f
structure Ch (l:List jQ):Prop where
 ok:∀g∈l,g.Ok
 ne:∀(i j:Nat)(x y:jQ),l[i]? =some x->l[j]? =some y->j<i->x.nm.toList≠y.nm.toList
 len:l.length<=40
def wm(l:List jQ)(a:Option Addr)(n c:Nat)(w:World)(h:RR EQ 10 (fun b=>b<w.heap.size) w a n c l)(r:Ch l):
 Calls prog 57 #[Z a n c] w (iZ w (.bool true)):=by
 have S:n<=40:=by rw[<- h.1];exact r.len
 have H:=O h;have u:=O r;clear h r;go_enter func57,ntmps57;go_wp2
 go_loopw [3] (fun s wr=>∃i:Nat,i<=n/\s=.int .i64 (i:Int)/\Below w w wr) (fun s _=>n-(intOf s).toNat)
 case atStart=>exact⟨0,by omega,rfl,TH _ _⟩
 case round=>
  obtain⟨i,hi,rfl,g:HQ _⟩:=hrel;by_cases A:i<n
  .obtain⟨b1,off,y,cs,rfl,hlt,x:HQ _,⟨rfl,hyn⟩,Hr:HQ _⟩:=(H.go wl g).at A
   have m:=Hr 0 _ rfl;rw[bE]at m;have L:=O m;clear m hyn
   go_wp2_with(first
    |(refine Dj Hr rfl (.tmp 13) rfl rfl ?_)
    |(refine(zJ y _ (u.ok y (aL x))).mono ?_;rintro e W ⟨rfl,v:HQ _⟩))
   obtain⟨k,rfl⟩:∃k:World,k=wr:=⟨_,rfl⟩
   go_loopw [4] (fun t N=>∃j:Nat,j<=i/\t=.int .i64 (j:Int)/\Below k k N) (fun t _=>i-(intOf t).toNat)
   case atStart=>exact⟨0,by omega,rfl,v⟩
   case round=>
    obtain⟨j,R,rfl,f⟩:=hrel;have m:=(f.cell (p:=⟨b1,off+i*10,none⟩) hlt).trans L;have d:=O f;have F:b1<wr.heap.size:=eb hlt f.size;clear f;by_cases B:j<i
    .obtain⟨b2,T,z,P,M,E,C,⟨rfl,D⟩,q⟩:=(H.go wl (I g d)).at (i:=j) (by omega)
     cases M;have z0:=q 0 _ rfl;rw[bE]at z0;have o:=u.ne i j y z x C B
     have K:(z.nm.toList==y.nm.toList)=false:=by rw[ak];exact fun e=>o e.symm
     clear q C D o;go_wp2_with fail
     go_quiet (fail)
     go_wp2
     go_roundw
     case rel=>exact⟨j+1,by omega,by go_num,by first|exact d|exact gV d _⟩
     case measure=>simp[intOf];omega
    .obtain rfl:j=i:=by omega
     go_wp2
     go_roundw
     case rel=>exact⟨j+1,by omega,by go_num,I g d⟩
     case measure=>simp[intOf];omega
  .obtain rfl:i=n:=by omega
   have Q:decide ((i:Int)<=40)=true:=aP (by omega);go_wp2;go_ret;exact⟨by simp<;>omega,g⟩
def tV(z:Int):∃y,y=z:=⟨z,rfl⟩
def KP{g:jQ}(a:g.In){L:Int}(h:0<L)(h2:L<=2500000)(hf:g.Far L):Sz 91 (iL g L):=by
 unfold iL;split
 .exact((uB a h h2 3 (by omega)).mul (uB a h h2 3 (by omega))).mono (by omega)
 .split
  .rename_i e1;exact(Di a h h2 (hf e1) 3 (by omega)).mono (by omega)
  .exact(GX a h h2 6 (by omega)).mono (by omega)
def HZ(g:jQ)(L:Int)(w:World)(hg:g.Ok)(h1:g.lo<=L)(h2:L<=g.hi)(b4:g.Far L)(A S:Nat)(hi:Sx g L A S):
 Calls prog 60 #[.agg #[g.nm,g.form,g.c0,g.c1,g.c2,g.c3,g.c4,g.c5,g.lo,g.hi],L] w (iZ w (.tuple #[.int .i64 (((S+1)/2:Nat):Int),oZ])):=by
 have hq:Nd (w.alloc (.cells #[g.nm,g.form,g.c0,g.c1,g.c2,g.c3,g.c4,g.c5,g.lo,g.hi] 115)) w g:=TL w _;have r:=(TH w w).alloc (ag _) (.cells #[g.nm,g.form,g.c0,g.c1,g.c2,g.c3,g.c4,g.c5,g.lo,g.hi] 115)
 have h3:0<L:=by have:=hg.lo;omega
 have h4:L<=2500000:=by have:=hg.hi;omega
 have e9:=KP hg.co h3 h4 b4;have h9:=uB hg.co h3 h4 3 (by omega);have Hq:=O hq;have d2:=O r;have HG:=O hg;have i5:=O b4;have D:=O hi;clear hq r hg b4 hi;go_enter func60,ntmps60;go_upto_region 1 with fail;refine jp (fun z=>Nd z w g/\Below w w z) ⟨Hq,d2⟩ ?_;clear Hq d2;rintro w0 ⟨Q:HQ _,Hb0:HQ _⟩;obtain⟨z0,z1,z2,z3,z4,z5,z6,z7,z8,z9⟩:=ml Q;have l0:=TK Q;go_wp2_with fail;refine(ET g L w0 HG h1 h2 i5).mono ?_;rintro e w1 ⟨s1,a1,m1,c1,b1,k1,d1,rfl,i9,h7⟩;clear z0 z1 z2 z3 z4 z5 z6 z7 z8 z9;have i7:=O (kG.new i9);have r:=(TH w1 w1).alloc (ag _) (.cells #[s1,Z a1 m1 c1,false,Z b1 k1 d1] 180);have d2:=O (h7.trans (r.mono h7.size));clear i9 r h7;go_upto_region 2 with fail;refine jp (fun z=>kG z w1 (iL g L)/\Below w0 w0 z) ⟨i7,d2⟩ ?_;clear i7 d2;rintro w2 ⟨v6,h8⟩;generalize w1.heap.size=g6 at*;have Q2:=O ((h8.block _ l0).trans Q);obtain⟨s6,a6,m6,c6,b6,k6,d6,Q6:HQ _,F6:HQ _⟩:=v6;obtain⟨i,x1,x2,x3⟩:=gL Q6;have l6:=TK Q6;have g1:=O (Hb0.trans (h8.mono Hb0.size));clear h8 Q Hb0;go_wp2_with fail;refine(Cd (iL g L) 91 s6 a6 b6 m6 k6 c6 d6 w2 F6 e9 (by omega)).mono ?_;rintro e w3 ⟨rfl,e3⟩
 have k4:¬oG (iL g L).num 0<0:=by
  have:=D.sq;unfold oG;rw[aj (by omega)];split<;>simp
 generalize oG (iL g L).num 0=cz at*;clear i x1 x2 x3;have q:=(e3.block _ (TK Q2)).trans Q2;obtain⟨z0,z1,z2,z3,z4,z5,z6,z7,z8,z9⟩:=ml q;have q6:=(e3.block _ l6).trans Q6;obtain⟨i,x1,x2,x3⟩:=gL q6;have f:=TK q6;have G6:=O (F6.go e3);have m:=O (g1.trans (e3.mono g1.size));have d5:=O q6;have f1:=TK q;have j0:=O q;clear q q6 e3 F6 Q6 Q2 g1 l6 l0;by_cases e2:g.form=2
 .have f2:(g.form==2)=true:=by simpa using e2
  have j1:=D.rt e2;have B:=Cc g L w3 HG.co h3 h4;generalize mr g L 3=rr at B h9 j1;rw[e2]at B;have b3:=O B;clear B;go_wp2_with fail;refine b3.mono ?_;rintro e k0 ⟨j9,j2,j8,j4,j3,j7,j5,rfl,i6:HQ _,c:HQ _⟩;go_wp2_with fail;refine(Cd rr 37 j9 j2 j3 j8 j7 j4 j5 k0 i6 (h9.mono (by omega)) (by omega)).mono ?_;rintro e k2 ⟨rfl,C⟩
  have k3:¬oG rr.num 0<0:=by
   unfold oG;rw[aj (by omega)];split<;>simp
  generalize oG rr.num 0=cz2 at*;have d:=c.trans (C.mono c.size);have q6:=(d.block _ f).trans d5;have q:=(d.block _ f1).trans j0;have i8:=G6.go d;have f6:=m.trans (d.mono m.size);clear j1 h9 b3 i x1 x2 x3 z0 z1 z2 z3 z4 z5 z6 z7 z8 z9 i6 c C d e2 f1 f d5 G6 m j0;obtain⟨z0,z1,z2,z3,z4,z5,z6,z7,z8,z9⟩:=ml q;obtain⟨i,x1,x2,x3⟩:=gL q6;have f:=TK q6;have f1:=TK q;have G6:=O i8;have m:=O f6;have d5:=O q6;clear q q6 i8 f6;obtain⟨w3,rfl⟩:∃w3:World,w3=k2:=⟨_,rfl⟩;go_upto_region 6 with fail;refine ic 8 [6] [(7,8,.cells #[false,oN] 178)] [(0,true),(1,false),(2,false),(3,false),(4,true),(5,true),(6,true)] (by kernel_rfl) (by kernel_rfl) ⟨by simp,by simp,by(simp only[ct];exact⟨⟨by omega,_,rfl,rfl,rfl,fun _ _=>rfl⟩,fun _ h=>by cases h⟩)⟩ (fun _ _ _ _ _ h=>h) (fun _ _ o _ _ h=>by cases o<;>exact h) ?_
  iterate 1
   refine gZ (v:=?_) ?_ ?_;rotate_left
   .intro y hy
    have y0:=(hy.cell (p:=J g6) f).trans i;have y1:=(hy.cell (p:=⟨g6,1,none⟩) f).trans x1;have y2:=(hy.cell (p:=⟨g6,2,none⟩) f).trans x2;have y3:=(hy.cell (p:=⟨g6,3,none⟩) f).trans x3;go_simp;rfl
   try simp only[V]
  clear i x1 x2 x3 z0 z1 z2 z3 z4 z5 z6 z7 z8 z9;refine iK (fun xa b2 K n=>?_);go_simp;refine(pQ 400000000000000 1 xa (by omega) (by omega) (by omega) (by omega)).mono ?_;rintro e wa ⟨s7,a7,m7,c7,b7,k7,d7,rfl,f7,b0⟩;refine n _ _ b0 ?_;clear n K;(try simp only[V]);have c:=O ((gJ (k:=1) b2).trans (b0.mono (gJ (k:=1) b2).size));have F7:=O f7;clear f7 b0 b2;refine iK (fun xb s K n=>?_);go_simp;refine(nM (iL g L) (mkRat 400000000000000 1) 91 2 s6 s7 a6 b6 a7 b7 m6 k6 c6 d6 m7 k7 c7 d7 xb ((G6.go c).go s) (F7.go s) e9 (Sz.mk (by omega) (by decide) (by decide)) (by omega)).mono ?_;rintro e wb ⟨s8,a8,m8,c8,b8,k8,d8,rfl,f8,C⟩;refine n _ _ C ?_;clear n K;(try simp only[V]);have t:=s.trans (C.mono s.size);have X:=O (c.trans (t.mono c.size));have G8:=O f8;clear f8 t C s F7 c;obtain⟨x,hx,f0⟩:=D.fl;have F:Sz 93 (iL g L*mkRat 400000000000000 1):=(e9.mul (Sz.mk (k:=2) (by omega) (by decide) (by decide))).mono (by omega);generalize iL g L*mkRat 400000000000000 1=R at*;refine iK (fun xc H K n=>?_);go_simp;refine(Ce R 93 x s8 a8 b8 m8 k8 c8 d8 xc (G8.go H) F (by omega) hx).mono ?_;rintro e wc ⟨s9,a9,m9,c9,rfl,M,d,-⟩;refine n _ _ d ?_;clear n K;(try simp only[V]);rw[f0]at M;have t:=H.trans (d.mono H.size);have a2:=O (X.trans (t.mono X.size));have G9:=O M;clear M t d H G8 X
  have j6:(ip A).length<=93:=by
   refine iB (cX ?_ F.1);rw[hx,<- f0,aB];exact dp _ _
  iterate 2
   refine gZ (v:=?_) ?_ ?_;rotate_left
   .intro y hy
    skip;go_simp;rfl
   try simp only[V]
  iterate 1
   refine iy (v:=?_) ?_ ?_;rotate_left
   .intro y
    go_simp;rfl
   try simp only[V]
  refine nV (l:=[_,_]) rfl (fun N w4 hC a4 e6=>?_);(try simp only[V]);have e8:w3.heap.size<=N:=hC.1.1.1;have e7:=a2.trans (a4.mono a2.size);have M:=G9.go a4;have hz:td w4 N false none 0 0:=e6;have d0:=O (show uO ((w4.setCell (J N) (.bool s9)).setCell ⟨N,1,none⟩ (.slice a9 m9 c9)) N (A:Int)from⟨_,_,_,_,pZ hz,Wr M hz⟩);obtain⟨i,x1,e0,e1⟩:=gQ hz;have E:=m.trans (e7.mono m.size);have d4:=O (nD (u:=.bool s9) (v:=.slice a9 m9 c9) E (af m.size e8));clear e7 E hz M e8 e6 a4 hC G9 a2 m G6 d5 f f1;go_upto_region 7 with fail;refine jp (fun z=>uO z N (A:Int)/\Below w w z) ⟨d0,d4⟩ ?_;clear e0 e1 i x1 d0 d4;rintro w5 ⟨v8,e4⟩;obtain⟨i2,g3,f3,g7,f4,a3⟩:=v8
  have b5:f3<=590:=by have:=mW a3;rw[aB]at this;omega
  obtain⟨i,x1,_,_⟩:=gQ f4;have b9:=O a3;have T:=O e4;clear a3 e4 f4;go_wp2_with fail;refine(Cf A S i2 g3 f3 g7 w5 b9 D.a0 D.s1 D.s2 b5).mono ?_;rintro e w6 ⟨i3,g4,i0,g9,rfl,d9,a5⟩;have r:=(TH w6 w6).alloc (ag _) (.cells #[i3,Z g4 i0 g9] 178);have HV:=O (uO.new d9);have d3:=O (T.trans ((a5.trans (r.mono a5.size)).mono T.size));clear r d9 a5 i x1 b9 T;go_upto_region 8 with fail;refine jp (fun z=>uO z w6 (S:Int)/\Below w w z) ⟨HV,d3⟩ ?_;clear HV d3;rintro w7 ⟨v8,W:HQ _⟩;obtain⟨i4,g5,i1,h0,f5,P:HQ _⟩:=v8;obtain⟨i,x1,_,_⟩:=gQ f5;obtain⟨b,hZ⟩:=tV (S:Int);rw[<- hZ]at P;clear f5;go_wp2_with fail;refine(zM i4 b g5 i1 h0 w7 P).mono ?_;rintro e w8 ⟨rfl,e5⟩
  have h6:(19999999:Int)<=b:=by have:=D.lo;omega
  have h5:b<=80000000:=by have:=D.hi;omega
  have j:rP b=true:=by unfold rP;exact aP (by omega)
  try rw[aq j,aq j]
  have g2:=O (W.trans (e5.mono W.size));clear e5 W P i x1;clear j;obtain⟨a,hY⟩:=tV ((b+1)/2)
  have r1:¬(80000001:Int) <b:=by omega
  have r2:IntKind.i64.wrap (b+1)=b+1:=TM _ (by omega)
  have r3:(b+1).tdiv 2=a:=by rw[hY];exact bL (by omega)
  have r4:a<=40000000:=by omega
  have r5:10000000<=a:=by omega
  have g0:=O (show a=(((S+1)/2:Nat):Int)by omega);clear h6 h5 hY hZ;have r6:IntKind.i64.wrap a=a:=TM _ (by omega)
  have r7:¬a<10000000:=by omega
  have r8:¬40000000<a:=by omega
  clear r4 r5;go_wp2_with fail;refine ar (v:=.tuple #[a,oZ]) ?_ rfl ⟨by rw[g0],g2⟩;simp[results,results60,go_sem]
 .have f2:(g.form==2)=false:=by simpa using e2
  clear e2;go_upto_region 6 with fail;refine ic 8 [6] [(7,8,.cells #[false,oN] 178)] [(0,true),(1,false),(2,false),(3,false),(4,true),(5,true),(6,true)] (by kernel_rfl) (by kernel_rfl) ⟨by simp,by simp,by(simp only[ct];exact⟨⟨by omega,_,rfl,rfl,rfl,fun _ _=>rfl⟩,fun _ h=>by cases h⟩)⟩ (fun _ _ _ _ _ h=>h) (fun _ _ o _ _ h=>by cases o<;>exact h) ?_
  iterate 1
   refine gZ (v:=?_) ?_ ?_;rotate_left
   .intro y hy
    have y0:=(hy.cell (p:=J g6) f).trans i;have y1:=(hy.cell (p:=⟨g6,1,none⟩) f).trans x1;have y2:=(hy.cell (p:=⟨g6,2,none⟩) f).trans x2;have y3:=(hy.cell (p:=⟨g6,3,none⟩) f).trans x3;go_simp;rfl
   try simp only[V]
  clear i x1 x2 x3 z0 z1 z2 z3 z4 z5 z6 z7 z8 z9;refine iK (fun xa b2 K n=>?_);go_simp;refine(pQ 400000000000000 1 xa (by omega) (by omega) (by omega) (by omega)).mono ?_;rintro e wa ⟨s7,a7,m7,c7,b7,k7,d7,rfl,f7,b0⟩;refine n _ _ b0 ?_;clear n K;(try simp only[V]);have c:=O ((gJ (k:=1) b2).trans (b0.mono (gJ (k:=1) b2).size));have F7:=O f7;clear f7 b0 b2;refine iK (fun xb s K n=>?_);go_simp;refine(nM (iL g L) (mkRat 400000000000000 1) 91 2 s6 s7 a6 b6 a7 b7 m6 k6 c6 d6 m7 k7 c7 d7 xb ((G6.go c).go s) (F7.go s) e9 (Sz.mk (by omega) (by decide) (by decide)) (by omega)).mono ?_;rintro e wb ⟨s8,a8,m8,c8,b8,k8,d8,rfl,f8,C⟩;refine n _ _ C ?_;clear n K;(try simp only[V]);have t:=s.trans (C.mono s.size);have X:=O (c.trans (t.mono c.size));have G8:=O f8;clear f8 t C s F7 c;obtain⟨x,hx,f0⟩:=D.fl;have F:Sz 93 (iL g L*mkRat 400000000000000 1):=(e9.mul (Sz.mk (k:=2) (by omega) (by decide) (by decide))).mono (by omega);generalize iL g L*mkRat 400000000000000 1=R at*;refine iK (fun xc H K n=>?_);go_simp;refine(Ce R 93 x s8 a8 b8 m8 k8 c8 d8 xc (G8.go H) F (by omega) hx).mono ?_;rintro e wc ⟨s9,a9,m9,c9,rfl,M,d,-⟩;refine n _ _ d ?_;clear n K;(try simp only[V]);rw[f0]at M;have t:=H.trans (d.mono H.size);have a2:=O (X.trans (t.mono X.size));have G9:=O M;clear M t d H G8 X
  have j6:(ip A).length<=93:=by
   refine iB (cX ?_ F.1);rw[hx,<- f0,aB];exact dp _ _
  iterate 2
   refine gZ (v:=?_) ?_ ?_;rotate_left
   .intro y hy
    skip;go_simp;rfl
   try simp only[V]
  iterate 1
   refine iy (v:=?_) ?_ ?_;rotate_left
   .intro y
    go_simp;rfl
   try simp only[V]
  refine nV (l:=[_,_]) rfl (fun N w4 hC a4 e6=>?_);(try simp only[V]);have e8:w3.heap.size<=N:=hC.1.1.1;have e7:=a2.trans (a4.mono a2.size);have M:=G9.go a4;have hz:td w4 N false none 0 0:=e6;have d0:=O (show uO ((w4.setCell (J N) (.bool s9)).setCell ⟨N,1,none⟩ (.slice a9 m9 c9)) N (A:Int)from⟨_,_,_,_,pZ hz,Wr M hz⟩);obtain⟨i,x1,e0,e1⟩:=gQ hz;have E:=m.trans (e7.mono m.size);have d4:=O (nD (u:=.bool s9) (v:=.slice a9 m9 c9) E (af m.size e8));clear e7 E hz M e8 e6 a4 hC G9 a2 m G6 d5 f f1;go_upto_region 7 with fail;refine jp (fun z=>uO z N (A:Int)/\Below w w z) ⟨d0,d4⟩ ?_;clear e0 e1 i x1 d0 d4;rintro w5 ⟨v8,e4⟩;obtain⟨i2,g3,f3,g7,f4,a3⟩:=v8
  have b5:f3<=590:=by have:=mW a3;rw[aB]at this;omega
  obtain⟨i,x1,_,_⟩:=gQ f4;have b9:=O a3;have T:=O e4;clear a3 e4 f4;go_wp2_with fail;refine(Cf A S i2 g3 f3 g7 w5 b9 D.a0 D.s1 D.s2 b5).mono ?_;rintro e w6 ⟨i3,g4,i0,g9,rfl,d9,a5⟩;have r:=(TH w6 w6).alloc (ag _) (.cells #[i3,Z g4 i0 g9] 178);have HV:=O (uO.new d9);have d3:=O (T.trans ((a5.trans (r.mono a5.size)).mono T.size));clear r d9 a5 i x1 b9 T;go_upto_region 8 with fail;refine jp (fun z=>uO z w6 (S:Int)/\Below w w z) ⟨HV,d3⟩ ?_;clear HV d3;rintro w7 ⟨v8,W:HQ _⟩;obtain⟨i4,g5,i1,h0,f5,P:HQ _⟩:=v8;obtain⟨i,x1,_,_⟩:=gQ f5;obtain⟨b,hZ⟩:=tV (S:Int);rw[<- hZ]at P;clear f5;go_wp2_with fail;refine(zM i4 b g5 i1 h0 w7 P).mono ?_;rintro e w8 ⟨rfl,e5⟩
  have h6:(19999999:Int)<=b:=by have:=D.lo;omega
  have h5:b<=80000000:=by have:=D.hi;omega
  have j:rP b=true:=by unfold rP;exact aP (by omega)
  try rw[aq j,aq j]
  have g2:=O (W.trans (e5.mono W.size));clear e5 W P i x1;clear j;obtain⟨a,hY⟩:=tV ((b+1)/2)
  have r1:¬(80000001:Int) <b:=by omega
  have r2:IntKind.i64.wrap (b+1)=b+1:=TM _ (by omega)
  have r3:(b+1).tdiv 2=a:=by rw[hY];exact bL (by omega)
  have r4:a<=40000000:=by omega
  have r5:10000000<=a:=by omega
  have g0:=O (show a=(((S+1)/2:Nat):Int)by omega);clear h6 h5 hY hZ;have r6:IntKind.i64.wrap a=a:=TM _ (by omega)
  have r7:¬a<10000000:=by omega
  have r8:¬40000000<a:=by omega
  clear r4 r5;go_wp2_with fail;refine ar (v:=.tuple #[a,oZ]) ?_ rfl ⟨by rw[g0],g2⟩;simp[results,results60,go_sem]
