import Derived.Test.YtgohdcccfkjooaaGreatDoorProg
import Derived.Test.YtgohdcccfkjooaaGreatDoorQAD
import Derived.RangeFuncRecord
import Derived.Shelf.Strings.OnBuilder
import Derived.Shelf.Strings.Trim
import Derived.Shelf.Strings.BuilderK
import Derived.Shelf.Utf8.RuneCount
import Derived.Shelf.Strings.Builder2Cap
import Derived.Shelf.Strconv.Itoa3
import Derived.Shelf.Strconv.ErrVarAll
import Derived.Shelf.Strconv.ParseUintEmpty
import Derived.Shelf.Strconv.ParseUint10b64
import Derived.Shelf.Strconv.ParseUint10b32
import Derived.Shelf.Strconv.ParseUint10b16
import Derived.Shelf.Strconv.ParseUint10b8
import Derived.Shelf.Strings.Shaped
import Derived.Shelf.Strings.SplitShaped
import Derived.Shelf.Strings.Runes
import Derived.Shelf.Strings.AsciiSet
import Derived.Shelf.Strings.Explode
import Derived.Shelf.Strings.Repeat
import Derived.Shelf.Strings.FieldsFuncGrows
import Derived.Shelf.Slices.Turned
namespace Go.Proofs.YtgohdcccfkjooaaGreatDoor
set_option linter.all false
set_option maxRecDepth 100000
set_option maxHeartbeats 1600000
open Go.Proofs.Tryz Go.RowKit Go.Shelf
def jp{P}{c:Code}{Q:Exit->Act->World->Prop}{a w}(F:World->Prop)(b:F w)(h:∀w',F w'->c.wp P Q a w'):c.wp P Q a w:=h w b
abbrev td(w:World)(g:Nat)(s:Bool)(a:Option Addr)(n c:Nat):Prop:=w.heap[g]? =some (.cells #[s,Z a n c] 221 (0,0))
def qB{B W W' g j u}(h:Below B W W')(a:B<=g):Below B W (W'.setCell ⟨g,j,none⟩ u):=h.setCell (p:=⟨g,j,none⟩) a u
def oP{B w w'}(h:Below B w w'):Below B w w'.drew:=⟨h.os,h.tape,h.output,h.size,h.block⟩
def pZ{w g s s' a a' n c n' c'}(h:td w g s a n c):td ((w.setCell (J g) (.bool s')).setCell ⟨g,1,none⟩ (.slice a' n' c')) g s' a' n' c':=
 gG (gG h 0 _) 1 _
def qi{w g k s a n c u v}(b:g≠k)(h:td w g s a n c):td ((w.setCell (J k) u).setCell ⟨k,1,none⟩ v) g s a n c:=
 (TI _ _ _ _ (fun e=>b e)).trans ((TI _ _ _ _ (fun e=>b e)).trans h)
def Da(s p q):(GN s (p%q)).natAbs=p%q:=by unfold GN;cases s<;>simp<;>omega
def vb(s t x y a b n m c d)(w:World)(ha:LG w w s a n c x)(hb:LG w w t b m d y)(hm:m<=599)(A)(hG:Nat.gcd x.natAbs y.natAbs=A):
 Calls prog 231 #[.agg #[s,Z a n c],.agg #[t,Z b m d]] w (tb w (A:Int)):=by
 have g:=oF w (.cells #[s,Z a n c] 221) (.cells #[t,Z b m d] 221) (.cells #[false,oN] 221);obtain⟨i0,i1,i2⟩:=jh w (.cells #[s,Z a n c] 221) (.cells #[t,Z b m d] 221) (.cells #[false,oN] 221);have L:=ha.go g;have i:=hb.go g;have oa:mx w (w+3) a n:=mx.ofLG ha;have ob:mx w (w+3) b m:=mx.ofLG hb;have Ha:=O L;have Hb:=O i;have I0:=O i0;have I1:=O i1;have I2:=O i2;have Oa:=O oa;have Ob:=O ob;have H:=O g;have HG:=O hG;clear hG ha hb L i i0 i1 i2 oa ob g
 go_enter func231,ntmps231
 go_wp2_with fail
 go_loopg [] y.natAbs (fun k wr=>∃(p q:Int)(s':Bool)(a':Option Addr)(n' c':Nat)(t':Bool)(b':Option Addr)(m' d':Nat),td wr w s' a' n' c'/\td wr (w+1) t' b' m' d'/\td wr (w+2) false none 0 0/\LG wr wr s' a' n' c' p/\LG wr wr t' b' m' d' q/\m'<=599/\mx w (w+3) a' n'/\mx w (w+3) b' m'/\q.natAbs<=k/\Nat.gcd p.natAbs q.natAbs=A/\Below w w wr/\w.heap.size+3<=wr.heap.size)
 case atStart=>exact⟨x,y,s,a,n,c,t,b,m,d,I0,I1,I2,Ha,Hb,hm,Oa,Ob,aa _,HG,H,by simp⟩
 case round=>
  obtain⟨p,q,s',a',n',c',t',b',m',d',h0,h1,h2,hp,hq,a8,o1,o2,b2,hg,N,b5⟩:=hrel;obtain⟨x0,x1,x2,x3⟩:=gQ h0;obtain⟨y0,y1,y2,y3⟩:=gQ h1;obtain⟨z0,z1,z2,z3⟩:=gQ h2;have l:=hq.2.1.len;have K:=O hp;have Hq:=O hq;have Hg:=O hg;have B:=O N;have O1:=O o1;have W:=O o2;have R:=O h0;have S:=O h1;have T:=O h2;clear hp hq hg N o1 o2 h0 h1 h2
  by_cases hz:m'=0
  .subst hz
   have r:q.natAbs=0:=jC.1 l.symm;have a7:=O K.2.1.len;have C:=K.2.2;clear l
   go_wp2_with fail
   refine(nl false (ip p.natAbs) (A:Int) _ _ _ _ (by exact K.2.1) (iU _) (by omega) (by rw[iY,aI,<- a7];exact C) (by rw[iY,<- Hg,r,Nat.gcd_zero_right];rfl)).mono ?_;rintro e w1 ⟨s1,a1,n1,c1,rfl,Q,i,hf⟩;obtain⟨v0,v1,v2,v3⟩:=gQ ((i.block (w+2) (by omega)).trans T);have a5:=O Q;have Hf:=O hf;have a0:=O i;clear Q hf i x0 x1 x2 x3 y0 y1 y2 y3 z0 z1 z2 z3
   go_wp2_with fail
   refine ar (v:=.agg #[s1,Z a1 n1 c1]) ?_ rfl ?_
   .simp[results,results231,go_sem,v0,v1]
   .exact pF a5 (B.trans (a0.mono B.size)) Hf (w+2) (by omega) (by omega) _ _
  .have r:0<q.natAbs:=by
    obtain h|h:=cM q.natAbs
    .rw[h,jP]at l;simp at l;omega
    .exact h
   have a6:=O l;clear l
   go_wp2_with fail
   refine(oO s' t' p q p.natAbs q.natAbs rfl rfl a' b' n' m' c' d' _ (by exact K) (by exact Hq) r a8).mono ?_;rintro e z ⟨s2,a2,n2,c2,D,a3,u,c3,rfl,h2,h3,M,f2,f3⟩
   have a9:u<=599:=by
    have X:=h3.2.1.len;rw[Da]at X;have e2:=iM (cE (cx p.natAbs r));have e3:=a6.out;omega
   have H3:=O h3;have E:=O M;have F3:=O f3;clear h2 h3 M f2 f3 x0 x1 x2 x3 y0 y1 y2 y3 z0 z1 z2 z3
   go_upto_region 3 with fail
   obtain⟨X,e2⟩:=iN z (.cells #[s2,Z a2 n2 c2] 221) (.cells #[D,Z a3 u c3] 221);have j:=iH (w:=z) (.cells #[s2,Z a2 n2 c2] 221) (.cells #[D,Z a3 u c3] 221);refine jp (fun wx=>td wx (z+1) D a3 u c3/\Below z z wx) ⟨e2,j⟩ ?_;clear X e2 j;rintro w3 ⟨j3,j⟩;have b3:=E.size;have f:Below wr wr w3:=E.trans (j.mono E.size);obtain⟨x0,x1,x2,x3⟩:=gQ ((f.block w (by omega)).trans R);obtain⟨y0,y1,y2,y3⟩:=gQ ((f.block (w+1) (by omega)).trans S);have P:=(f.block (w+2) (by omega)).trans T;obtain⟨v0,v1,v2,v3⟩:=gQ j3
   have b0:z.heap.size+1≠w.heap.size:=by omega
   have b1:z.heap.size+1≠w.heap.size+1:=by omega
   have J0:=O ((f.block w (by omega)).trans R);have J1:=O ((f.block (w+1) (by omega)).trans S);have J2:=O P;have a4:=O j;have o:=O f;clear P j f j3 R S T;go_region
   go_wp2_with fail
   go_roundg (p.natAbs%q.natAbs)
   case measure=>have:=cx p.natAbs r;omega
   case rel=>
    have l1:=Hq.go o;have l3:=H3.go a4;have F:mx w (w+3) a3 u:=mx.ofFresh (F3.mono (by omega));have k1:=mI (mI l1 W (aa _) (by omega) (.bool t') (.slice b' m' d')) W (show w.heap.size<=w.heap.size+1 by omega) (by omega) (.bool D) (.slice a3 u c3);have k3:=mI (mI l3 F (aa _) (by omega) (.bool t') (.slice b' m' d')) F (show w.heap.size<=w.heap.size+1 by omega) (by omega) (.bool D) (.slice a3 u c3);have b4:=o.size;refine⟨q,GN s' (p.natAbs%q.natAbs),t',b',m',d',D,a3,u,c3,qi (by omega) (pZ J0),pZ (qi (by omega) J1),qi (by omega) (qi (by omega) J2),k1,k3,a9,W,F,?_,?_,?_,?_⟩
    .rw[Da];exact aa _
    .rw[Da,<- Hg,Nat.gcd_comm q.natAbs,<- Nat.gcd_rec,Nat.gcd_comm]
    .exact oP (qB (qB (qB (qB (B.trans (o.mono B.size)) (aa _)) (aa _)) (by omega)) (by omega))
    .simp;omega
def GO(w:World)(r:Rat)(e:Ending)(w':World):Prop:=
 ∃s a n c b m d,e=.returned (.agg #[.bool s,Z a n c,false,Z b m d])/\LG w' w' s a n c r.num/\LG w' w' false b m d ((r.den:Nat):Int)/\Below w w w'/\kS w a n/\kS w b m
def MY{s x g}(a:s=decide (x<0))(b:g ∣ x.natAbs):Bd s false (x.natAbs/g)=x/(g:Int):=by
 have h:=Pv s b;rw[a,QR]at h;rw[<- h,a];unfold Bd Si;cases decide (x<0) <;>rfl
def GP{w w' g s a n c}(h:td w g s a n c)(b:Below w w w'):td w' g s a n c:=(b.block g (TK h)).trans h
def mW{N w s a n c z}(h:LG N w s a n c z):n=(ip z.natAbs).length:=h.2.1.len
abbrev pO(w:World)(g:Nat)(s:Bool)(a:Option Addr)(n c:Nat)(t:Bool)(b:Option Addr)(m d:Nat):Prop:=w.heap[g]? =some (.cells #[s,Z a n c,t,Z b m d] 243 (0,0))
def gL{w g s a n c t b m d}(h:pO w g s a n c t b m d):w.cell? (J g)=some (.bool s)/\w.cell? ⟨g,1,none⟩=some (.slice a n c)/\w.cell? ⟨g,2,none⟩=some (.bool t)/\w.cell? ⟨g,3,none⟩=some (.slice b m d):=
 ⟨gA h 0,gA h 1,gA h 2,gA h 3⟩
def kl{w g s s' a a' n c n' c' t t' b b' m d m' d'}(h:pO w g s a n c t b m d):pO ((((w.setCell (J g) (.bool s')).setCell ⟨g,1,none⟩ (.slice a' n' c')).setCell ⟨g,2,none⟩ (.bool t')).setCell ⟨g,3,none⟩ (.slice b' m' d')) g s' a' n' c' t' b' m' d':=
 gG (gG (gG (gG h 0 _) 1 _) 2 _) 3 _
def qY{w:World}{s a n c N M d z u v u2 v2}(h:LG w w s a n c z)(g:mx N M a n)(h1:N<=d)(h2:d<M):
 LG ((((w.setCell (J d) u).setCell ⟨d,1,none⟩ v).setCell ⟨d,2,none⟩ u2).setCell ⟨d,3,none⟩ v2).heap.size ((((w.setCell (J d) u).setCell ⟨d,1,none⟩ v).setCell ⟨d,2,none⟩ u2).setCell ⟨d,3,none⟩ v2) s a n c z:=by
 have f:∀b off,a=some ⟨b,off,none⟩->0<n->b≠d:=fun b off e h0=>by obtain h|h:=g b off e h0<;>omega
 have:=(((h.setCell (J d) u f).setCell ⟨d,1,none⟩ v f).setCell ⟨d,2,none⟩ u2 f).setCell ⟨d,3,none⟩ v2 f;simpa using this
def iR{B w w' g u v u2 v2}(h:Below B w w')(a:B<=g):Below B w ((((w'.setCell (J g) u).setCell ⟨g,1,none⟩ v).setCell ⟨g,2,none⟩ u2).setCell ⟨g,3,none⟩ v2):=qB (qB (qB (qB h a) a) a) a
def sD(s x)(y:Nat)(a b n m c d)(w:World)(ha:LG w w s a n c x)(hb:LG w w false b m d (y:Int))(hy:0<y)(hm:m<=599):
 Calls prog 258 #[.agg #[s,Z a n c],.agg #[false,Z b m d]] w (GO w (mkRat x y)):=by
 obtain⟨f,hG⟩:∃f,Nat.gcd x.natAbs (y:Int).natAbs=f:=⟨_,rfl⟩
 have t:Nat.gcd x.natAbs y=f:=by rw[<- hG,aB]
 have b0:0<f:=by rw[<- t];exact eM _ hy
 have b2:f ∣ x.natAbs:=by rw[<- t];exact fG _ _
 have b3:f ∣ y:=by rw[<- t];exact Nat.gcd_dvd_right _ _
 have b1:(ip f).length<=599:=af (iM (Nat.le_of_dvd hy b3)) (by have:=mW hb;rw[aB]at this;omega);obtain⟨r1,r2⟩:=zA x (d:=y) (by omega);rw[t]at r1 r2;have b7:=ha.1
 have q1:Bd s false (x.natAbs/f)=(mkRat x y).num:=by rw[MY b7 b2,r1]
 have q2:Bd false false ((y:Int).natAbs/f)=(((mkRat x y).den:Nat):Int):=by rw[r2,aB];rfl
 generalize mkRat x y=R at*;have k:=oF w (.cells #[s,Z a n c] 221) (.cells #[false,Z b m d] 221) (.cells #[false,oN,false,oN] 243);obtain⟨i0,i1,i2⟩:=jh w (.cells #[s,Z a n c] 221) (.cells #[false,Z b m d] 221) (.cells #[false,oN,false,oN] 243);have Ha:=O (ha.go k);have Hb:=O (hb.go k);have I0:=O i0;have I1:=O i1;have I2:=O i2;have p:=O k;have HG:=O hG;have a8:=O b1;have Q1:=O q1;have Q2:=O q2;clear ha hb i0 i1 i2 k hG t b1 q1 q2 r1 r2 b2 b3 b7
 go_enter func258,ntmps258
 go_wp2_with fail
 refine(vb s false x (y:Int) a b n m c d _ (by exact Ha) (by exact Hb) hm f HG).mono ?_;rintro e h ⟨s1,a1,n1,c1,rfl,S,g,_⟩
 have b6:s1=false:=by rw[S.1];simp
 subst b6;obtain⟨x0,x1,_,_⟩:=gQ ((g.block w (by simp<;>omega)).trans I0);obtain⟨y0,y1,_,_⟩:=gQ ((g.block (w+1) (by simp<;>omega)).trans I1)
 have b6:w.heap.size+3<=h.heap.size:=by have:=g.size;simp at this;omega
 have j0:=(g.block w (by simp<;>omega)).trans I0;have j1:=(g.block (w+1) (by simp<;>omega)).trans I1;have l:=(g.block (w+2) (by simp<;>omega)).trans I2;have H:Below w w h:=p.trans (g.mono p.size);have b8:=O (Ha.go g);have b9:=O (Hb.go g);have D:=O S;have J0:=O j0;have J1:=O j1;have J2:=O l;have a4:=O H;clear S g j0 j1 l H Ha Hb I0 I1 I2 p
 go_upto_region 4 with fail
 clear x0 x1 y0 y1;have i:=(TH h h).alloc (aa _) (.cells #[false,Z a1 n1 c1] 221);refine jp (fun u=>td u h false a1 n1 c1/\Below h h u) ⟨TL h _,i⟩ ?_;clear i;rintro w2 ⟨K,P⟩;have c7:=TK K;obtain⟨x0,x1,_,_⟩:=gQ (GP J0 P);obtain⟨z0,z1,_,_⟩:=gQ K;have K3:=O K;have L:=O P;clear K P
 go_wp2_with fail
 refine(oO s false x (f:Int) x.natAbs f rfl (aB _) a a1 n n1 c c1 _ (by exact b8.go L) (by exact D.go L) b0 (by have:=mW D;rw[aB]at this;have:=a8.out;omega)).mono ?_;rintro e C ⟨s2,a2,A,c2,s3,a3,n3,c3,rfl,h2,h3,b4,f2,_⟩;rw[Q1]at h2;have H2:=O h2;have M:=O b4;have F2:=O f2;clear h2 h3 b4 f2 x0 x1 z0 z1
 go_upto_region 5 with fail
 obtain⟨N,e2⟩:=iN C (.cells #[s2,Z a2 A c2] 221) (.cells #[s3,Z a3 n3 c3] 221);have i:=iH (w:=C) (.cells #[s2,Z a2 A c2] 221) (.cells #[s3,Z a3 n3 c3] 221);refine jp (fun u=>td u C s2 a2 A c2/\Below C C u) ⟨N,i⟩ ?_;clear N e2 i;rintro w4 ⟨k4,F⟩;have c8:=M.size;have c9:=TK k4;have q:Below h h w4:=(L.trans (M.mono (by omega))).trans (F.mono (by omega));obtain⟨y0,y1,_,_⟩:=gQ (GP J1 q);obtain⟨z0,z1,_,_⟩:=gQ ((((M.trans (F.mono c8)).block h c7)).trans K3);have K4:=O k4;have c0:=O F;have o:=O q;clear k4 F q K3
 go_wp2_with fail
 refine(oO false false (y:Int) (f:Int) (y:Int).natAbs f rfl (aB _) b a1 m n1 d c1 _ (by exact b9.go o) (by exact D.go o) b0 (by have:=mW D;rw[aB]at this;have:=a8.out;omega)).mono ?_;rintro e W ⟨s5,z,B,c5,s6,a6,n6,c6,rfl,h5,h6,b5,f5,_⟩;rw[Q2]at h5
 have T:s5=false:=by rw[h5.1];simp
 subst T;have H5:=O h5;have a9:=O b5;have F5:=O f5;clear h5 h6 b5 f5 y0 y1 z0 z1
 go_upto_region 6 with fail
 obtain⟨N,e2⟩:=iN W (.cells #[false,Z z B c5] 221) (.cells #[s6,Z a6 n6 c6] 221);have i:=iH (w:=W) (.cells #[false,Z z B c5] 221) (.cells #[s6,Z a6 n6 c6] 221);refine jp (fun u=>td u W false z B c5/\Below W W u) ⟨N,i⟩ ?_;clear N e2 i;rintro w6 ⟨k6,Q⟩;have T:=a9.size;have d0:=TK k6;have j:Below w4 w4 w6:=a9.trans (Q.mono T);have E:Below C C w6:=c0.trans (j.mono (by omega));have r:Below h h w6:=o.trans (j.mono (by omega));obtain⟨x0,x1,_,_⟩:=gQ (GP K4 j);obtain⟨z0,z1,_,_⟩:=gQ k6;have l:=(r.block (w+2) (by omega)).trans J2;have J6:=O l;have g0:=gD l 0;have g1:=gD l 1;have g2:=gD l 2;have g3:=gD l 3;obtain⟨v0,v1,v2,v3⟩:=gL l;have a0:=O E;have X:=O r;have c4:=O Q;clear k6 Q j E r l
 go_wp2_with fail
 have a7:=kl (s':=s2) (a':=a2) (n':=A) (c':=c2) (t':=false) (b':=z) (m':=B) (d':=c5) J6;obtain⟨k0,k1,k2,K⟩:=gL a7;refine ar (v:=.agg #[s2,Z a2 A c2,false,Z z B c5]) ?_ rfl ?_
 .simp[results,results258,go_sem,k0,k1,k2,K]
 .have l2:=H2.go a0
  have l5:=H5.go c4;have o2:mx w (w+3) a2 A:=mx.ofFresh (F2.mono (by omega));have o5:mx w (w+3) z B:=mx.ofFresh (F5.mono (by omega));exact⟨s2,a2,A,c2,z,B,c5,rfl,qY l2 o2 (show w.heap.size<=w.heap.size+2 by omega) (by omega),qY l5 o5 (show w.heap.size<=w.heap.size+2 by omega) (by omega),iR (a4.trans (X.mono (by omega))) (by omega),F2.mono (by omega),F5.mono (by omega)⟩
def SC(K:Act->World->Prop)(Q:Exit->Act->World->Prop):Exit->Act->World->Prop
 | .normal=>K
 |e=>Q e
section
variable{P:Program}{ops:Array Oper}{Q:Exit->Act->World->Prop}{md:Region.Mode}{B:Nat}
def Nr(o:Oper)(a:Act)(K:Act->World->Prop)(r:Result Next)(h:o.upon P a K (SC K Q) r):o.upon P a K Q r:=by
 match r with
 | .ok (.value v) w'=>exact h
 | .ok .skip w'=>exact h
 | .ok (.defer d) w'=>exact h
 | .ok (.enter f args) w'=>exact Calls.mono (by exact h) (fun e w' b=>by cases e<;>exact b)
 | .ok (.row row args) w'=>exact h
 | .halt (.panic v) w'=>exact h
def vw{o:Oper}{a:Act}{w:World}{K:Act->World->Prop}(b:o.guard=none)(h:wpList P ops (SC K Q) [o] a w):o.wp P a w K Q\/(o.asks P a w/\LetsOut Q):=by
 have hw:Region.wanted o (yielded ops a.tmps)=true:=by simp[Region.wanted,b]
 unfold wpList at h;rw[aq hw]at h
 obtain h|h:=h
 .exact Or.inl (Nr o a K _ h)
 .exact Or.inr h
def mm{n fuel i:Nat}{o:Oper}{b:Array Bool}{a:Act}{w:World}(e:Region.ready md ops b=[i])(hi:ops.toList[i]? =some o)(c:o.guard=none)
 (h:∀K:Act->World->Prop,(∀a' w',Below B w w'->qR B P md ops Q n fuel (b.setIfInBounds i true) a' w'->K a' w')->wpList P ops (SC K Q) [o] a w):qR B P md ops Q n (fuel+1) b a w:=by
 have hw:Region.wanted o (yielded ops a.tmps)=true:=by simp[Region.wanted,c]
 rw[bc]at hi;refine⟨fun h0=>(by rw[e]at h0;cases h0),fun j d=>?_⟩;rw[e]at d
 obtain rfl:j=i:=by simpa using d
 unfold wpOp;simp only[hi,hw,bX];exact vw c (h _ fun a' w' h1 h2=>⟨fun _=>h1,h2⟩)
def Fb{n fuel i j:Nat}{o c:Oper}{b:Array Bool}{a:Act}{w:World}(l:Region.ready md ops b=[i,j])(hi:ops.toList[i]? =some o)(g:ops.toList[j]? =some c)(f:o.guard=none)(d:c.guard=none)
 (h:∀K:Act->World->Prop,(∀a' w',Below B w w'->qR B P md ops Q n fuel (b.setIfInBounds i true) a' w'->K a' w')->wpList P ops (SC K Q) [o] a w)
 (p:∀K:Act->World->Prop,(∀a' w',Below B w w'->qR B P md ops Q n fuel (b.setIfInBounds j true) a' w'->K a' w')->wpList P ops (SC K Q) [c] a w):qR B P md ops Q n (fuel+1) b a w:=by
 have hw:Region.wanted o (yielded ops a.tmps)=true:=by simp[Region.wanted,f]
 have m:Region.wanted c (yielded ops a.tmps)=true:=by simp[Region.wanted,d]
 rw[bc]at hi g;refine⟨fun h0=>(by rw[l]at h0;cases h0),fun k e=>?_⟩;rw[l]at e;simp only[aS,bi,cR]at e
 obtain rfl|rfl:=e
 .unfold wpOp
  simp only[hi,hw,bX];exact vw f (h _ fun a' w' h1 h2=>⟨fun _=>h1,h2⟩)
 .unfold wpOp
  simp only[g,m,bX];exact vw d (p _ fun a' w' h1 h2=>⟨fun _=>h1,h2⟩)
def qG{b:List Oper}{o:Oper}{a:Act}{w:World}(e:o.guard=none)(v:Value)(d:Obj)(c:(execOp a.eval o).run P w=.ok (.value v) (w.alloc d))(h:wpList P ops Q b (a.put o.dst v) (w.alloc d)):wpList P ops Q (o::b) a w:=by
 have hw:Region.wanted o (yielded ops a.tmps)=true:=by simp[Region.wanted,e]
 unfold wpList;rw[aq hw];refine Or.inl ?_;unfold Oper.wp;rw[c];exact h
end
def NP(P:Program)(l:Nat)(R:Ending->World->Prop)(e:Exit)(a:Act)(w:World):Prop:=
 match e with
 | .panic b=>a.defers=[]/\R (.panicked b) w
 |e=>roundPost P l R e a w
def DD{F n P l f fn}{tmps:Array Value}{assign body w}{R:Ending->World->Prop}(S:P.funcs[f]? =some fn)(Q:F.fn f)(h:assign.wpIn (F.inRound l) n P (Exit.then (fun L T=>∃N,(Instr.beginRound l).run P T=.ok () N/\body.wpIn (F.inRound l) n P (NP P l R) L N) (fun _ _ _=>False)) {tmps:=tmps,defers:=[]} w):
 RoundIn F n P l f tmps assign body w R:=by
 refine⟨Q,fun c cs A=>?_⟩;obtain⟨b,D⟩:∃b:Frame,b={(default:Frame)with fn:=f,kind:=.normal,roundOf:=some l}:=⟨_,rfl⟩
 have H:b.fn=f:=by rw[D]
 have x:b.kind=.normal:=by rw[D]
 have g:b.roundOf=some l:=by rw[D]
 have j:(F.inRound l).fn b.fn:=by rw[H];exact Q
 have s:Frame.round l f tmps assign body .normal=b.atR {tmps:=tmps,defers:=[]} [.code assign,.beginRound,.code body]:=by
  rw[D];simp[Frame.round,Frame.atR]
 have m:(F.inRound l).room ((c::cs).length+1+n):=A;rw[s];obtain⟨e,L,T,o,C⟩:=h b [.beginRound,.code body] (c::cs) g j m
 match e,o,C with
 | .normal,⟨N,hgo,hbody⟩,C=>
   have i:=StepsIn.trans C (.one (fenced_calm (fr:=b.atR L [.beginRound,.code body]) j m rfl) (stepR_beginRound g hgo));obtain⟨X,z,W,B,E⟩:=hbody b [] (c::cs) g j m
   match X,B,E with
   | .panic d,⟨hd,p⟩,⟨y,q⟩=>
     have K:({b.atR z y with mode:=.panicking d}:Frame).leaving P W (.panicked d):=⟨rfl,hd,fn,by show P.funcs[b.fn]? =some fn;rw[H];exact S⟩;exact⟨.panicked d,W,p,i.trans (q.trans (.one (fenced_leaving (fr:={b.atR z y with mode:=.panicking d}) j m K) (step_leave_panicked K)))⟩
   | .normal,⟨v,u,a,p⟩,q=>exact⟨.returned v,u,p,i.trans (StepsIn.trans q (.one (fenced_calm (fr:=b.atR z []) j m rfl) (stepR_round_end g x a)))⟩
   | .ret,⟨v,u,a,p⟩,q=>
     obtain⟨k,r⟩:=q.2 (by rw[g];rfl);exact⟨.returned v,u,p,i.trans (r.trans (.one (fenced_calm (fr:=b.atR z (.code .ret::k)) j m rfl) (stepR_round_ret g x a)))⟩
   | .exit id,⟨v,u,a,p⟩,q=>
     obtain⟨k,M,r⟩:=q.2 (by rw[g];rfl) rfl;exact⟨.returned v,u,p,i.trans (r.trans (.one (fenced_calm (fr:=b.atR z (.code (.exit id)::k)) j m rfl) (stepR_round_exit g x M a)))⟩
   | .goto t,⟨v,u,a,p⟩,q=>
     obtain⟨k,M,r⟩:=q.2 (by rw[g];rfl) rfl;exact⟨.returned v,u,p,i.trans (r.trans (.one (fenced_calm (fr:=b.atR z (.code (.goto t)::k)) j m rfl) (stepR_round_goto g x M a)))⟩
   | .outgrown,B,_=>exact B.elim
 | .exit _,o,_=>exact o.elim
 | .goto _,o,_=>exact o.elim
 | .ret,o,_=>exact o.elim
 | .panic _,o,_=>exact o.elim
 | .outgrown,o,_=>exact o.elim
section
def JO(d:FuncId)(P:Program)(c:Code)(Q:Exit->Act->World->Prop)(a:Act)(w:World):Prop:=
 ∀(b:Frame)(k:List Item)(cs:List Frame),b.roundOf=none->b.fn=d->
  ∃e a' w',Q e a' w'/\ArrivesIn (Machine.fenced P Fence.wide) P (lone (b.atR a (.code c::k)) cs w) b k cs e a' w'
variable{fn0:FuncId}{P:Program}{Q:Exit->Act->World->Prop}{a:Act}{w:World}
def Cs{c:Code}(h:c.wp P Q a w):JO fn0 P c Q a w:=fun b k cs d _=>(wpIn_wide (n:=0)).2 h b k cs d trivial (room_wide _)
def JP{x y:Code}(h:JO fn0 P x (Exit.then (JO fn0 P y Q) Q) a w):JO fn0 P (.seq x y) Q a w:=by
 intro b k cs l m;have h0:(lone (b.atR a (.code (.seq x y)::k)) cs w).fenced P Fence.wide:=fenced_calm (n:=0) trivial (room_wide _) rfl;obtain⟨e,f,g,d,c⟩:=h b (.code y::k) cs l m
 match e,d,c with
 | .normal,d,c=>
   obtain⟨q,p,r,o,j⟩:=d b k cs l m;exact⟨q,p,r,o,ArrivesIn.of_steps (StepsIn.head h0 stepR_seq c) j⟩
 | .exit i,d,c=>exact⟨_,f,g,d,.of_steps (.one h0 stepR_seq) (.pass (x:=.code y) rfl (fun _ _=>.inl (by simp)) c)⟩
 | .goto i,d,c=>exact⟨_,f,g,d,.of_steps (.one h0 stepR_seq) (.pass (x:=.code y) rfl (fun _ _=>.inl (by simp)) c)⟩
 | .ret,d,c=>exact⟨_,f,g,d,.of_steps (.one h0 stepR_seq) (.pass (x:=.code y) rfl (fun _ _=>.inl (by simp)) c)⟩
 | .panic ch,d,c=>exact⟨_,f,g,d,.of_steps (.one h0 stepR_seq) (.pass (x:=.code y) rfl (fun _ _=>.inl (by simp)) c)⟩
 | .outgrown,d,c=>exact⟨_,f,g,d,.of_steps (.one h0 stepR_seq) (.pass (x:=.code y) rfl (fun _ _=>.inl (by simp)) c)⟩
def oW{x y:Code}(h:∀K:Act->World->Prop,(∀a w,JO fn0 P y Q a w->K a w)->x.wp P (Exit.then K Q) a w):JO fn0 P (.seq x y) Q a w:=JP (Cs (h _ fun _ _ h=>h))
def SF(Q:Exit->Act->World->Prop)(e:Exit)(a:Act)(w:World):Prop:=
 match e with
 | .normal=>Q .normal a w
 | .panic ch=>Q (.panic ch) a w
 |_=>False
def Lw{id:Nat}{c:Code}(h:JO fn0 P c (SF Q) a w):JO fn0 P (.block id c) Q a w:=by
 intro b k cs i l;have h0:(lone (b.atR a (.code (.block id c)::k)) cs w).fenced P Fence.wide:=fenced_calm (n:=0) trivial (room_wide _) rfl;obtain⟨e,g,j,d,f⟩:=h b (.inBlock id::k) cs i l
 match e,d,f with
 | .normal,d,f=>exact⟨.normal,g,j,d,StepsIn.head h0 stepR_block (StepsIn.trans f (.one (fenced_calm (n:=0) trivial (room_wide _) rfl) stepR_inBlock))⟩
 | .panic ch,d,f=>exact⟨.panic ch,g,j,d,ArrivesIn.of_steps (.one h0 stepR_block) f⟩
 | .exit _,d,_=>exact d.elim
 | .goto _,d,_=>exact d.elim
 | .ret,d,_=>exact d.elim
 | .outgrown,d,_=>exact d.elim
def Lz{g:Operand}{z:Array Tmp}{assign body:Code}{l:Nat}{i:List Deferred}{C w₁' D:World}{d:Deferred}{f:FuncId}{args:Array Value}
 (A:(Instr.enterLoop fn0 a.tmps z assign body none).run P w=.ok (l,i) C)(s:(resolve a.eval (rangeCall g l) 0).run P C=.ok d w₁')(hinv:(invoke d.target d.args).run P w₁'=.ok (.enter f args) D)
 (q:Calls P f args D fun e o=>match e with
   | .returned _=>∃t,(Instr.endLoop l).run P o=.ok none t/\Q .normal {a with defers:=i++a.defers} t
   | .panicked j=>Q (.panic j) {a with defers:=i++a.defers} o
   | .outgrown=>False):JO fn0 P (.rangeFunc g z assign body) Q a w:=by
 intro b k cs B E;rw[<- E,<- B]at A;have h0:(lone (b.atR a (.code (.rangeFunc g z assign body)::k)) cs w).fenced P Fence.wide:=fenced_lone (.inl trivial) (fun _ _=>trivial) (room_wide _);have m:=stepR_rangeFunc (P:=P) (b:=b) (a:=a) (k:=k) (cs:=cs) (w:=w) A s hinv;obtain⟨e,o,fr,u,h,F,c⟩:=((callsIn_wide (n:=0)).2 q).2 (b.atR {a with defers:=i++a.defers} (.inRangeFunc l::k)::cs) (room_wide _)
 match e,u,h,c with
 | .outgrown,u,_,_=>exact u.elim
 | .returned v,⟨t,r,y⟩,h,c=>
   have x:(lone fr (b.atR {a with defers:=i++a.defers} (.inRangeFunc l::k)::cs) o).fenced P Fence.wide:=fenced_leaving (n:=0) trivial (room_wide _) c;refine⟨.normal,_,t,y,?_⟩
   have p:step P (lone fr (b.atR {a with defers:=i++a.defers} (.inRangeFunc l::k)::cs) o)=.next (lone (b.atR {a with defers:=i++a.defers} (.endRangeFunc l::k)) cs o):=by
    rw[<- finish_atR_inRangeFunc l v];exact step_leave_returned c
   exact StepsIn.head h0 m (StepsIn.trans h (StepsIn.head x p (.one (fenced_calm (n:=0) trivial (room_wide _) rfl) (stepR_endRangeFunc r))))
 | .panicked j,y,h,c=>
   have x:(lone fr (b.atR {a with defers:=i++a.defers} (.inRangeFunc l::k)::cs) o).fenced P Fence.wide:=fenced_leaving (n:=0) trivial (room_wide _) c;refine⟨.panic j,_,o,y,.inRangeFunc l::k,StepsIn.head h0 m (StepsIn.trans h (.one x ?_))⟩;rw[<- Frame.raise_atR];exact step_leave_panicked c
def DE{f:FuncId}{fn:Func}{c:Code}{args:Array Value}{R:Ending->World->Prop}(hf:P.funcs[f]? =some fn)(z:fn.body=some c)
 (h:JO f P c (bodyPostM Fence.wide 0 P fn R) {tmps:=args++Array.replicate (fn.ntmps-args.size) undef,defers:=[]} w):Calls P f args w R:=by
 refine(callsIn_wide (n:=0)).1 ⟨trivial,fun cs A=>?_⟩;obtain⟨b,p⟩:∃b:Frame,b={(default:Frame)with fn:=f,kind:=.normal,roundOf:=none}:=⟨_,rfl⟩
 have i:b.fn=f:=by rw[p]
 have q:b.kind=.normal:=by rw[p]
 have t:b.roundOf=none:=by rw[p]
 have l:Frame.enter P f args .normal=b.atR {tmps:=args++Array.replicate (fn.ntmps-args.size) undef,defers:=[]} [.code c]:=by
  rw[p];simp[Frame.enter,Frame.atR,hf,z]
 have u:P.funcs[b.fn]? =some fn:=by rw[i];exact hf
 obtain⟨e,a',w',d,a⟩:=h b [] cs t i;rw[l]
 match e,d,a with
 | .normal,d,a=>
   obtain⟨r,o,k,s,x,m,v⟩:=leaves_stepsInM a'.defers .returning w' {b.atR a' []with mode:=.returning} cs rfl rfl rfl u q trivial (room_wide _) d;exact⟨r,o,k,s,ComesIn.of_steps (StepsIn.trans a (.one (fenced_calm (n:=0) (fr:=b.atR a' []) trivial (room_wide _) rfl) (stepR_end t))) x,m.trans i,v⟩
 | .ret,d,a=>
   obtain⟨j,y⟩:=a.1 t;obtain⟨r,o,k,s,x,m,v⟩:=leaves_stepsInM a'.defers .returning w' {b.atR a' j with mode:=.returning} cs rfl rfl rfl u q trivial (room_wide _) d;exact⟨r,o,k,s,ComesIn.of_steps y x,m.trans i,v⟩
 | .panic g,d,a=>
   obtain⟨j,y⟩:=a;obtain⟨r,o,k,s,x,m,v⟩:=leaves_stepsInM a'.defers (.panicking g) w' {b.atR a' j with mode:=.panicking g} cs rfl rfl rfl u q trivial (room_wide _) d;exact⟨r,o,k,s,ComesIn.of_steps y x,m.trans i,v⟩
 | .exit _,d,_=>exact d.elim
 | .goto _,d,_=>exact d.elim
 | .outgrown,d,a=>exact⟨.outgrown,w',b,d,a.resolve_left (by rw[q];simp),i,trivial⟩
end
section
def Tryz.lays156_ren:Go.Shelf.Ren:=⟨fun|156=>31|165=>59|166=>60|169=>30|240=>62|241=>98|276=>99|277=>141|n=>n,fun|31=>52|9=>9|3=>3|4=>4|0=>0|20=>20|72=>86|76=>141|70=>84|37=>24|75=>88|127=>146|164=>198|5=>5|80=>94|n=>n,fun|n=>n⟩
def Tryz.lays156:Go.Proofs.Lays.n156 prog Tryz.lays156_ren:={
 mixed:=by kernel_rfl
 f156:=func31.trans (congrArg some (by kernel_rfl))
 f165:=func59.trans (congrArg some (by kernel_rfl))
 f166:=func60.trans (congrArg some (by kernel_rfl))
 f169:=func30.trans (congrArg some (by kernel_rfl))
 f240:=func62.trans (congrArg some (by kernel_rfl))
 f241:=func98.trans (congrArg some (by kernel_rfl))
 f276:=func99.trans (congrArg some (by kernel_rfl))
 f277:=func141.trans (congrArg some (by kernel_rfl))
 t0:=underlying0
 a0:=isAgg0
 z0:=sizeOf0
 v0:=zeroValue0
 t3:=underlying3
 a3:=isAgg3
 z3:=sizeOf3
 v3:=zeroValue3
 t4:=underlying4
 a4:=isAgg4
 z4:=sizeOf4
 v4:=zeroValue4
 t9:=underlying9
 a9:=isAgg9
 z9:=sizeOf9
 v9:=zeroValue9
 t20:=underlying20
 a20:=isAgg20
 z20:=sizeOf20
 v20:=zeroValue20
 t31:=underlying52
 a31:=isAgg52
 z31:=sizeOf52
 v31:=zeroValue52
 t37:=underlying24
 a37:=isAgg24
 z37:=sizeOf24
 v37:=zeroValue24
 t70:=underlying84
 a70:=isAgg84
 z70:=sizeOf84
 v70:=zeroValue84
 t72:=underlying86
 a72:=isAgg86
 z72:=sizeOf86
 v72:=zeroValue86
 t75:=underlying88
 a75:=isAgg88
 z75:=sizeOf88
 v75:=zeroValue88
 t76:=underlying141
 a76:=isAgg141
 z76:=sizeOf141
 v76:=zeroValue141
 t127:=underlying146
 a127:=isAgg146
 z127:=sizeOf146
 v127:=zeroValue146
 t164:=underlying198
 a164:=isAgg198
 z164:=sizeOf198
 v164:=zeroValue198}
def Tryz.Builder_Extra_156:Builder.Extra prog Tryz.lays156_ren:={
 sizeBuilder:=by kernel_rfl
 liesBuilder:=by kernel_rfl
 t5:=underlying5
 a5:=isAgg5
 z5:=sizeOf5
 v5:=zeroValue5
 infoByte:=by kernel_rfl
 cellsByte:=by kernel_rfl
 sizeByte:=by kernel_rfl
 neB5:=by decide}
open Go.RowKit in
def Tryz.strings_Join(d o c:Nat)(xs:List ByteArray)(b:ByteArray)(w:World)(a:∀(j:Nat) x,xs[j]? =some x->w.cell? ⟨d,o+j,none⟩=some (.string x))(h:d<w.heap.size)(i:xs.length<=140737488355328)(f:xs.length<=c)(g:(Lib.join (xs.map (·.data.toList)) b.data.toList).length<=140737488355328):
 Calls prog 31 #[.slice (some ⟨d,o,none⟩) xs.length c,.string b] w fun e w'=>e=.returned (.string ⟨(Lib.join (xs.map (·.data.toList)) b.data.toList).toArray⟩)/\Below w.heap.size w w':=Any.strings_Join Tryz.lays156 Tryz.Builder_Extra_156 d o c xs b w a h i f g
def Tryz.lays162_ren:Go.Shelf.Ren:=⟨fun|162=>171|232=>218|227=>219|234=>220|236=>221|228=>246|271=>247|151=>248|120=>263|197=>102|152=>264|260=>142|137=>276|119=>277|224=>145|225=>144|217=>143|266=>184|n=>n,fun|9=>9|4=>4|3=>3|5=>5|117=>299|116=>298|0=>0|124=>302|21=>21|105=>201|46=>137|119=>273|139=>276|138=>275|n=>n,fun|3=>6|4=>7|n=>n⟩
def Tryz.lays162:Go.Proofs.Lays.n162 prog Tryz.lays162_ren:={
 mixed:=by kernel_rfl
 f119:=func277.trans (congrArg some (by kernel_rfl))
 f120:=func263.trans (congrArg some (by kernel_rfl))
 f137:=func276.trans (congrArg some (by kernel_rfl))
 f151:=func248.trans (congrArg some (by kernel_rfl))
 f152:=func264.trans (congrArg some (by kernel_rfl))
 f162:=func171.trans (congrArg some (by kernel_rfl))
 f197:=func102.trans (congrArg some (by kernel_rfl))
 f217:=func143.trans (congrArg some (by kernel_rfl))
 f224:=func145.trans (congrArg some (by kernel_rfl))
 f225:=func144.trans (congrArg some (by kernel_rfl))
 f227:=func219.trans (congrArg some (by kernel_rfl))
 f228:=func246.trans (congrArg some (by kernel_rfl))
 f232:=func218.trans (congrArg some (by kernel_rfl))
 f234:=func220.trans (congrArg some (by kernel_rfl))
 f236:=func221.trans (congrArg some (by kernel_rfl))
 f260:=func142.trans (congrArg some (by kernel_rfl))
 f266:=func184.trans (congrArg some (by kernel_rfl))
 f271:=func247.trans (congrArg some (by kernel_rfl))
 t0:=underlying0
 a0:=isAgg0
 z0:=sizeOf0
 v0:=zeroValue0
 t3:=underlying3
 a3:=isAgg3
 z3:=sizeOf3
 v3:=zeroValue3
 t4:=underlying4
 a4:=isAgg4
 z4:=sizeOf4
 v4:=zeroValue4
 t5:=underlying5
 a5:=isAgg5
 z5:=sizeOf5
 v5:=zeroValue5
 t9:=underlying9
 a9:=isAgg9
 z9:=sizeOf9
 v9:=zeroValue9
 t21:=underlying21
 a21:=isAgg21
 z21:=sizeOf21
 v21:=zeroValue21
 t46:=underlying137
 a46:=isAgg137
 z46:=sizeOf137
 v46:=zeroValue137
 t105:=underlying201
 a105:=isAgg201
 z105:=sizeOf201
 v105:=zeroValue201
 t116:=underlying298
 a116:=isAgg298
 z116:=sizeOf298
 t117:=underlying299
 a117:=isAgg299
 z117:=sizeOf299
 v117:=zeroValue299
 t119:=underlying273
 a119:=isAgg273
 z119:=sizeOf273
 t124:=underlying302
 a124:=isAgg302
 z124:=sizeOf302
 v124:=zeroValue302
 t138:=underlying275
 a138:=isAgg275
 z138:=sizeOf275
 v138:=zeroValue275
 t139:=underlying276
 a139:=isAgg276
 z139:=sizeOf276
 v139:=zeroValue276
 g3:=by kernel_rfl
 g4:=by kernel_rfl}
open Go.RowKit in
def Tryz.strings_TrimRight_one(s:ByteArray)(c:UInt8)(a:c.toNat<128)(w:World)(b:s.size<=9223372036854775807):
 Calls prog 171 #[.string s,.string ⟨#[c]⟩] w fun e w'=>e=.returned (.string ⟨(Lib.trimRightB s.data.toList c).toArray⟩)/\w'=w:=Any.strings_TrimRight_one Tryz.lays162 s c a w b
def Tryz.laysM171_ren:Go.Shelf.Ren:=⟨fun|171=>128|243=>172|246=>222|283=>249|284=>250|285=>251|286=>252|129=>266|317=>265|318=>267|319=>268|320=>269|337=>278|338=>279|n=>n,fun|3=>3|9=>9|2=>2|4=>4|171=>323|0=>0|53=>195|37=>24|5=>5|173=>326|212=>336|51=>192|20=>20|213=>337|46=>137|232=>354|233=>355|n=>n,fun|17=>8|18=>12|19=>13|n=>n⟩
def Tryz.laysM171:Go.Proofs.LaysM.n171 prog Tryz.laysM171_ren:={
 mixed:=by kernel_rfl
 f129:=func266.trans (congrArg some (by kernel_rfl))
 f171:=func128.trans (congrArg some (by kernel_rfl))
 f243:=func172.trans (congrArg some (by kernel_rfl))
 f246:=func222.trans (congrArg some (by kernel_rfl))
 f283:=func249.trans (congrArg some (by kernel_rfl))
 f284:=func250.trans (congrArg some (by kernel_rfl))
 f285:=func251.trans (congrArg some (by kernel_rfl))
 f286:=func252.trans (congrArg some (by kernel_rfl))
 f317:=func265.trans (congrArg some (by kernel_rfl))
 f318:=func267.trans (congrArg some (by kernel_rfl))
 f319:=func268.trans (congrArg some (by kernel_rfl))
 f320:=func269.trans (congrArg some (by kernel_rfl))
 f337:=func278.trans (congrArg some (by kernel_rfl))
 f338:=func279.trans (congrArg some (by kernel_rfl))
 t0:=underlying0
 a0:=isAgg0
 z0:=sizeOf0
 v0:=zeroValue0
 t2:=underlying2
 a2:=isAgg2
 z2:=sizeOf2
 v2:=zeroValue2
 t3:=underlying3
 a3:=isAgg3
 z3:=sizeOf3
 v3:=zeroValue3
 t4:=underlying4
 a4:=isAgg4
 z4:=sizeOf4
 v4:=zeroValue4
 t5:=underlying5
 a5:=isAgg5
 z5:=sizeOf5
 v5:=zeroValue5
 t9:=underlying9
 a9:=isAgg9
 z9:=sizeOf9
 v9:=zeroValue9
 t20:=underlying20
 a20:=isAgg20
 z20:=sizeOf20
 v20:=zeroValue20
 t37:=underlying24
 a37:=isAgg24
 z37:=sizeOf24
 v37:=zeroValue24
 t46:=underlying137
 a46:=isAgg137
 z46:=sizeOf137
 v46:=zeroValue137
 t51:=underlying192
 a51:=isAgg192
 z51:=sizeOf192
 v51:=zeroValue192
 t53:=underlying195
 a53:=isAgg195
 z53:=sizeOf195
 v53:=zeroValue195
 t171:=underlying323
 a171:=isAgg323
 z171:=sizeOf323
 v171:=zeroValue323
 t173:=underlying326
 a173:=isAgg326
 z173:=sizeOf326
 v173:=zeroValue326
 t212:=underlying336
 a212:=isAgg336
 z212:=sizeOf336
 v212:=zeroValue336
 t213:=underlying337
 a213:=isAgg337
 z213:=sizeOf337
 t232:=underlying354
 a232:=isAgg354
 z232:=sizeOf354
 v232:=zeroValue354
 t233:=underlying355
 a233:=isAgg355
 z233:=sizeOf355
 v233:=zeroValue355
 g17:=by kernel_rfl
 g18:=by kernel_rfl
 g19:=by kernel_rfl
 i0:=by kernel_rfl
 i2:=by kernel_rfl
 i3:=by kernel_rfl
 i4:=by kernel_rfl
 i5:=by kernel_rfl
 i9:=by kernel_rfl
 i20:=by kernel_rfl
 i37:=by kernel_rfl
 i46:=by kernel_rfl
 i51:=by kernel_rfl
 i53:=by kernel_rfl
 i171:=by kernel_rfl
 i173:=by kernel_rfl
 i212:=by kernel_rfl
 i232:=by kernel_rfl
 i233:=by kernel_rfl
 m17:=by kernel_rfl
 m18:=by kernel_rfl
 m19:=by kernel_rfl}
open Go.RowKit Go.Sort Go.Lib in
def Tryz.strconv_Itoa(n:Int)(h0: -9223372036854775808<=n)(h1:n<=9223372036854775807)(w:World)(a:Lib.TabIs prog w "internal/strconv.uint64pow10" .u64 Lib.pow10Tab):
 Calls prog 128 #[.int .i64 n] w fun e w'=>e=.returned (.string ⟨(Lib.itoa n).toArray⟩)/\ ∃k os,w'=grow (w.drewN k) os:=Any.strconv_Itoa Tryz.laysM171 n h0 h1 w a
def Tryz.laysC172_ren:Go.Shelf.Ren:=⟨fun|172=>226|244=>254|245=>255|247=>270|279=>271|280=>272|281=>273|282=>274|287=>280|316=>281|171=>128|205=>282|321=>284|322=>285|243=>172|246=>222|283=>249|284=>250|285=>251|286=>252|129=>266|317=>265|318=>267|319=>268|320=>269|337=>278|338=>279|n=>n,fun|9=>9|3=>3|75=>88|76=>141|4=>4|5=>5|167=>339|37=>24|0=>0|85=>340|2=>2|168=>342|53=>195|175=>347|46=>137|210=>350|127=>146|145=>359|143=>357|21=>21|171=>323|173=>326|212=>336|51=>192|20=>20|213=>337|232=>354|233=>355|80=>94|n=>n,fun|15=>9|16=>10|17=>8|18=>12|19=>13|n=>n⟩
def Tryz.laysC172:Go.Proofs.LaysC.n172 prog Tryz.laysC172_ren:={
 mixed:=by kernel_rfl
 f129:=func266.trans (congrArg some (by kernel_rfl))
 f171:=func128.trans (congrArg some (by kernel_rfl))
 f172:=func226.trans (congrArg some (by kernel_rfl))
 f205:=func282.trans (congrArg some (by kernel_rfl))
 f243:=func172.trans (congrArg some (by kernel_rfl))
 f244:=func254.trans (congrArg some (by kernel_rfl))
 f245:=func255.trans (congrArg some (by kernel_rfl))
 f246:=func222.trans (congrArg some (by kernel_rfl))
 f247:=func270.trans (congrArg some (by kernel_rfl))
 f279:=func271.trans (congrArg some (by kernel_rfl))
 f280:=func272.trans (congrArg some (by kernel_rfl))
 f281:=func273.trans (congrArg some (by kernel_rfl))
 f282:=func274.trans (congrArg some (by kernel_rfl))
 f283:=func249.trans (congrArg some (by kernel_rfl))
 f284:=func250.trans (congrArg some (by kernel_rfl))
 f285:=func251.trans (congrArg some (by kernel_rfl))
 f286:=func252.trans (congrArg some (by kernel_rfl))
 f287:=func280.trans (congrArg some (by kernel_rfl))
 f316:=func281.trans (congrArg some (by kernel_rfl))
 f317:=func265.trans (congrArg some (by kernel_rfl))
 f318:=func267.trans (congrArg some (by kernel_rfl))
 f319:=func268.trans (congrArg some (by kernel_rfl))
 f320:=func269.trans (congrArg some (by kernel_rfl))
 f321:=func284.trans (congrArg some (by kernel_rfl))
 f322:=func285.trans (congrArg some (by kernel_rfl))
 f337:=func278.trans (congrArg some (by kernel_rfl))
 f338:=func279.trans (congrArg some (by kernel_rfl))
 t0:=underlying0
 a0:=isAgg0
 z0:=sizeOf0
 v0:=zeroValue0
 t2:=underlying2
 a2:=isAgg2
 z2:=sizeOf2
 v2:=zeroValue2
 t3:=underlying3
 a3:=isAgg3
 z3:=sizeOf3
 v3:=zeroValue3
 t4:=underlying4
 a4:=isAgg4
 z4:=sizeOf4
 v4:=zeroValue4
 t5:=underlying5
 a5:=isAgg5
 z5:=sizeOf5
 v5:=zeroValue5
 t9:=underlying9
 a9:=isAgg9
 z9:=sizeOf9
 v9:=zeroValue9
 t20:=underlying20
 a20:=isAgg20
 z20:=sizeOf20
 v20:=zeroValue20
 t21:=underlying21
 a21:=isAgg21
 z21:=sizeOf21
 v21:=zeroValue21
 t37:=underlying24
 a37:=isAgg24
 z37:=sizeOf24
 v37:=zeroValue24
 t46:=underlying137
 a46:=isAgg137
 z46:=sizeOf137
 v46:=zeroValue137
 t51:=underlying192
 a51:=isAgg192
 z51:=sizeOf192
 v51:=zeroValue192
 t53:=underlying195
 a53:=isAgg195
 z53:=sizeOf195
 v53:=zeroValue195
 t75:=underlying88
 a75:=isAgg88
 z75:=sizeOf88
 v75:=zeroValue88
 t76:=underlying141
 a76:=isAgg141
 z76:=sizeOf141
 v76:=zeroValue141
 t85:=underlying340
 a85:=isAgg340
 z85:=sizeOf340
 v85:=zeroValue340
 t127:=underlying146
 a127:=isAgg146
 z127:=sizeOf146
 v127:=zeroValue146
 t143:=underlying357
 a143:=isAgg357
 z143:=sizeOf357
 v143:=zeroValue357
 t145:=underlying359
 a145:=isAgg359
 z145:=sizeOf359
 v145:=zeroValue359
 t167:=underlying339
 a167:=isAgg339
 z167:=sizeOf339
 v167:=zeroValue339
 t168:=underlying342
 a168:=isAgg342
 z168:=sizeOf342
 v168:=zeroValue342
 t171:=underlying323
 a171:=isAgg323
 z171:=sizeOf323
 v171:=zeroValue323
 t173:=underlying326
 a173:=isAgg326
 z173:=sizeOf326
 v173:=zeroValue326
 t175:=underlying347
 a175:=isAgg347
 z175:=sizeOf347
 v175:=zeroValue347
 t210:=underlying350
 a210:=isAgg350
 z210:=sizeOf350
 v210:=zeroValue350
 t212:=underlying336
 a212:=isAgg336
 z212:=sizeOf336
 v212:=zeroValue336
 t213:=underlying337
 a213:=isAgg337
 z213:=sizeOf337
 t232:=underlying354
 a232:=isAgg354
 z232:=sizeOf354
 v232:=zeroValue354
 t233:=underlying355
 a233:=isAgg355
 z233:=sizeOf355
 v233:=zeroValue355
 g15:=by kernel_rfl
 g16:=by kernel_rfl
 g17:=by kernel_rfl
 g18:=by kernel_rfl
 g19:=by kernel_rfl
 t80:=underlying94
 a80:=isAgg94
 z80:=sizeOf94
 v80:=zeroValue94
 i0:=by kernel_rfl
 i2:=by kernel_rfl
 i3:=by kernel_rfl
 i4:=by kernel_rfl
 i5:=by kernel_rfl
 i9:=by kernel_rfl
 i20:=by kernel_rfl
 i21:=by kernel_rfl
 i37:=by kernel_rfl
 i46:=by kernel_rfl
 i51:=by kernel_rfl
 i53:=by kernel_rfl
 i75:=by kernel_rfl
 i76:=by kernel_rfl
 i80:=by kernel_rfl
 i85:=by kernel_rfl
 i127:=by kernel_rfl
 i143:=by kernel_rfl
 i145:=by kernel_rfl
 i167:=by kernel_rfl
 i168:=by kernel_rfl
 i171:=by kernel_rfl
 i173:=by kernel_rfl
 i175:=by kernel_rfl
 i210:=by kernel_rfl
 i212:=by kernel_rfl
 i232:=by kernel_rfl
 i233:=by kernel_rfl
 m15:=by kernel_rfl
 m16:=by kernel_rfl
 m17:=by kernel_rfl
 m18:=by kernel_rfl
 m19:=by kernel_rfl
 c0:=by kernel_rfl
 c2:=by kernel_rfl
 c3:=by kernel_rfl
 c4:=by kernel_rfl
 c5:=by kernel_rfl
 c9:=by kernel_rfl
 c20:=by kernel_rfl
 c21:=by kernel_rfl
 c37:=by kernel_rfl
 c46:=by kernel_rfl
 c51:=by kernel_rfl
 c53:=by kernel_rfl
 c75:=by kernel_rfl
 c76:=by kernel_rfl
 c80:=by kernel_rfl
 c85:=by kernel_rfl
 c127:=by kernel_rfl
 c143:=by kernel_rfl
 c145:=by kernel_rfl
 c167:=by kernel_rfl
 c168:=by kernel_rfl
 c171:=by kernel_rfl
 c173:=by kernel_rfl
 c175:=by kernel_rfl
 c210:=by kernel_rfl
 c212:=by kernel_rfl
 c213:=by kernel_rfl
 c232:=by kernel_rfl
 c233:=by kernel_rfl}
open Go.RowKit in
def Tryz.strconv_Atoi_ok(s:ByteArray)(a:s.size<=9223372036854775806)(v:Int)(h:Lib.atoiAll s.data.toList=.ok v)(w:World):
 Calls prog 226 #[.string s] w fun e w'=>e=.returned (.tuple #[.int .i64 v,.nilIface])/\(w'=w\/ ∃t,w'=Lib.bytesWorld w 5 t):=Any.strconv_Atoi_ok Tryz.laysC172 s a v h w
open Go.RowKit in
def Tryz.strconv_Atoi_range_var(s:ByteArray)(a:s.size<=281474976710656)(h:Lib.atoiAll s.data.toList=.range)(c:TypeId)(p:Value)(w:World)(b:w.var? prog "strconv.ErrRange" =some #[.iface c p]):
 Calls prog 226 #[.string s] w fun e w'=>∃N,e=.returned (.tuple #[.int .i64 (Lib.atoiSat s.data.toList),.iface 342 (.pointer (some ⟨N,0,none⟩))])/\w.heap.size<=N/\w'.heap[N]? =some (.cells #[.string ⟨#[65,116,111,105]⟩,.string s,.iface c p] 350 (0,0))/\Below w.heap.size w w':=Any.strconv_Atoi_range_var Tryz.laysC172 s a h c p w b
def Tryz.lays138_ren:Go.Shelf.Ren:=⟨fun|138=>53|195=>93|218=>94|143=>67|219=>103|217=>143|225=>144|224=>145|267=>146|266=>184|314=>185|n=>n,fun|9=>9|3=>3|4=>4|5=>5|0=>0|46=>137|146=>193|51=>192|n=>n,fun|1=>5|n=>n⟩
def Tryz.lays138:Go.Proofs.Lays.n138 prog Tryz.lays138_ren:={
 mixed:=by kernel_rfl
 f138:=func53.trans (congrArg some (by kernel_rfl))
 f143:=func67.trans (congrArg some (by kernel_rfl))
 f195:=func93.trans (congrArg some (by kernel_rfl))
 f217:=func143.trans (congrArg some (by kernel_rfl))
 f218:=func94.trans (congrArg some (by kernel_rfl))
 f219:=func103.trans (congrArg some (by kernel_rfl))
 f224:=func145.trans (congrArg some (by kernel_rfl))
 f225:=func144.trans (congrArg some (by kernel_rfl))
 f266:=func184.trans (congrArg some (by kernel_rfl))
 f267:=func146.trans (congrArg some (by kernel_rfl))
 f314:=func185.trans (congrArg some (by kernel_rfl))
 t0:=underlying0
 a0:=isAgg0
 z0:=sizeOf0
 v0:=zeroValue0
 t3:=underlying3
 a3:=isAgg3
 z3:=sizeOf3
 v3:=zeroValue3
 t4:=underlying4
 a4:=isAgg4
 z4:=sizeOf4
 v4:=zeroValue4
 t5:=underlying5
 a5:=isAgg5
 z5:=sizeOf5
 v5:=zeroValue5
 t9:=underlying9
 a9:=isAgg9
 z9:=sizeOf9
 v9:=zeroValue9
 t46:=underlying137
 a46:=isAgg137
 z46:=sizeOf137
 v46:=zeroValue137
 t51:=underlying192
 a51:=isAgg192
 z51:=sizeOf192
 v51:=zeroValue192
 t146:=underlying193
 a146:=isAgg193
 z146:=sizeOf193
 v146:=zeroValue193
 g1:=by kernel_rfl}
open Go.RowKit Go.Lib in
def Tryz.strings_Count_one(s:ByteArray)(c:UInt8)(w:World):
 Calls prog 53 #[.string s,.string ⟨#[c]⟩] w fun e w'=>e=.returned (.int .i64 (Lib.countByte s.data.toList c))/\w'=w:=Any.strings_Count_one Tryz.lays138 s c w
def Tryz.lays101_ren:Go.Shelf.Ren:=⟨fun|101=>169|208=>217|206=>97|n=>n,fun|9=>9|4=>4|3=>3|n=>n,fun|n=>n⟩
def Tryz.lays101:Go.Proofs.Lays.n101 prog Tryz.lays101_ren:={
 mixed:=by kernel_rfl
 f101:=func169.trans (congrArg some (by kernel_rfl))
 f206:=func97.trans (congrArg some (by kernel_rfl))
 f208:=func217.trans (congrArg some (by kernel_rfl))
 t3:=underlying3
 a3:=isAgg3
 z3:=sizeOf3
 v3:=zeroValue3
 t4:=underlying4
 a4:=isAgg4
 z4:=sizeOf4
 v4:=zeroValue4
 t9:=underlying9
 a9:=isAgg9
 z9:=sizeOf9
 v9:=zeroValue9}
open Go.RowKit Go.Lib in
def Tryz.strings_TrimPrefix(s p:ByteArray)(w:World):
 Calls prog 169 #[.string s,.string p] w fun e w'=>e=.returned (.string ⟨(Lib.trimPrefix s.data.toList p.data.toList).toArray⟩)/\w'=w:=Any.strings_TrimPrefix Tryz.lays101 s p w
def Tryz.lays146_ren:Go.Shelf.Ren:=⟨fun|146=>27|221=>63|268=>100|138=>53|143=>67|195=>93|197=>102|218=>94|219=>103|260=>142|217=>143|225=>144|224=>145|267=>146|266=>184|314=>185|n=>n,fun|9=>9|31=>52|3=>3|4=>4|0=>0|105=>201|21=>21|5=>5|46=>137|119=>273|139=>276|138=>275|146=>193|51=>192|n=>n,fun|1=>5|3=>6|4=>7|n=>n⟩
def Tryz.lays146:Go.Proofs.Lays.n146 prog Tryz.lays146_ren:={
 mixed:=by kernel_rfl
 f138:=func53.trans (congrArg some (by kernel_rfl))
 f143:=func67.trans (congrArg some (by kernel_rfl))
 f146:=func27.trans (congrArg some (by kernel_rfl))
 f195:=func93.trans (congrArg some (by kernel_rfl))
 f197:=func102.trans (congrArg some (by kernel_rfl))
 f217:=func143.trans (congrArg some (by kernel_rfl))
 f218:=func94.trans (congrArg some (by kernel_rfl))
 f219:=func103.trans (congrArg some (by kernel_rfl))
 f221:=func63.trans (congrArg some (by kernel_rfl))
 f224:=func145.trans (congrArg some (by kernel_rfl))
 f225:=func144.trans (congrArg some (by kernel_rfl))
 f260:=func142.trans (congrArg some (by kernel_rfl))
 f266:=func184.trans (congrArg some (by kernel_rfl))
 f267:=func146.trans (congrArg some (by kernel_rfl))
 f268:=func100.trans (congrArg some (by kernel_rfl))
 f314:=func185.trans (congrArg some (by kernel_rfl))
 t0:=underlying0
 a0:=isAgg0
 z0:=sizeOf0
 v0:=zeroValue0
 t3:=underlying3
 a3:=isAgg3
 z3:=sizeOf3
 v3:=zeroValue3
 t4:=underlying4
 a4:=isAgg4
 z4:=sizeOf4
 v4:=zeroValue4
 t5:=underlying5
 a5:=isAgg5
 z5:=sizeOf5
 v5:=zeroValue5
 t9:=underlying9
 a9:=isAgg9
 z9:=sizeOf9
 v9:=zeroValue9
 t21:=underlying21
 a21:=isAgg21
 z21:=sizeOf21
 v21:=zeroValue21
 t31:=underlying52
 a31:=isAgg52
 z31:=sizeOf52
 v31:=zeroValue52
 t46:=underlying137
 a46:=isAgg137
 z46:=sizeOf137
 v46:=zeroValue137
 t51:=underlying192
 a51:=isAgg192
 z51:=sizeOf192
 v51:=zeroValue192
 t105:=underlying201
 a105:=isAgg201
 z105:=sizeOf201
 v105:=zeroValue201
 t119:=underlying273
 a119:=isAgg273
 z119:=sizeOf273
 t138:=underlying275
 a138:=isAgg275
 z138:=sizeOf275
 v138:=zeroValue275
 t139:=underlying276
 a139:=isAgg276
 z139:=sizeOf276
 v139:=zeroValue276
 t146:=underlying193
 a146:=isAgg193
 z146:=sizeOf193
 v146:=zeroValue193
 g1:=by kernel_rfl
 g3:=by kernel_rfl
 g4:=by kernel_rfl}
open Go.RowKit Go.Lib in
def Tryz.strings_Split(s a:ByteArray)(m:Int)(w:World)(c:s.size<4294967281)(b:w.cell? ⟨5,0,none⟩=some (.int .i64 m))(h1:1<=a.size):
 Calls prog 27 #[.string s,.string a] w fun e w'=>
  e=.returned (.slice (some ⟨w.heap.size,0,none⟩) (Lib.countB s a+1) (Lib.countB s a+1))/\w'=w.alloc (.cells ((Lib.splitB a 0 (Lib.countB s a) s).map Value.string).toArray 9):=Any.strings_Split Tryz.lays146 (by kernel_rfl) s a m w c b h1
def Tryz.lays154_ren:Go.Shelf.Ren:=⟨fun|154=>65|138=>53|165=>59|143=>67|166=>60|197=>102|169=>30|195=>93|218=>94|240=>62|241=>98|219=>103|260=>142|276=>99|277=>141|217=>143|225=>144|224=>145|267=>146|266=>184|314=>185|n=>n,fun|9=>9|3=>3|4=>4|72=>86|0=>0|76=>141|105=>201|21=>21|5=>5|70=>84|20=>20|37=>24|75=>88|127=>146|164=>198|46=>137|119=>273|139=>276|138=>275|146=>193|51=>192|80=>94|n=>n,fun|1=>5|3=>6|4=>7|n=>n⟩
def Tryz.lays154:Go.Proofs.Lays.n154 prog Tryz.lays154_ren:={
 mixed:=by kernel_rfl
 f138:=func53.trans (congrArg some (by kernel_rfl))
 f143:=func67.trans (congrArg some (by kernel_rfl))
 f154:=func65.trans (congrArg some (by kernel_rfl))
 f165:=func59.trans (congrArg some (by kernel_rfl))
 f166:=func60.trans (congrArg some (by kernel_rfl))
 f169:=func30.trans (congrArg some (by kernel_rfl))
 f195:=func93.trans (congrArg some (by kernel_rfl))
 f197:=func102.trans (congrArg some (by kernel_rfl))
 f217:=func143.trans (congrArg some (by kernel_rfl))
 f218:=func94.trans (congrArg some (by kernel_rfl))
 f219:=func103.trans (congrArg some (by kernel_rfl))
 f224:=func145.trans (congrArg some (by kernel_rfl))
 f225:=func144.trans (congrArg some (by kernel_rfl))
 f240:=func62.trans (congrArg some (by kernel_rfl))
 f241:=func98.trans (congrArg some (by kernel_rfl))
 f260:=func142.trans (congrArg some (by kernel_rfl))
 f266:=func184.trans (congrArg some (by kernel_rfl))
 f267:=func146.trans (congrArg some (by kernel_rfl))
 f276:=func99.trans (congrArg some (by kernel_rfl))
 f277:=func141.trans (congrArg some (by kernel_rfl))
 f314:=func185.trans (congrArg some (by kernel_rfl))
 t0:=underlying0
 a0:=isAgg0
 z0:=sizeOf0
 v0:=zeroValue0
 t3:=underlying3
 a3:=isAgg3
 z3:=sizeOf3
 v3:=zeroValue3
 t4:=underlying4
 a4:=isAgg4
 z4:=sizeOf4
 v4:=zeroValue4
 t5:=underlying5
 a5:=isAgg5
 z5:=sizeOf5
 v5:=zeroValue5
 t9:=underlying9
 a9:=isAgg9
 z9:=sizeOf9
 v9:=zeroValue9
 t20:=underlying20
 a20:=isAgg20
 z20:=sizeOf20
 v20:=zeroValue20
 t21:=underlying21
 a21:=isAgg21
 z21:=sizeOf21
 v21:=zeroValue21
 t37:=underlying24
 a37:=isAgg24
 z37:=sizeOf24
 v37:=zeroValue24
 t46:=underlying137
 a46:=isAgg137
 z46:=sizeOf137
 v46:=zeroValue137
 t51:=underlying192
 a51:=isAgg192
 z51:=sizeOf192
 v51:=zeroValue192
 t70:=underlying84
 a70:=isAgg84
 z70:=sizeOf84
 v70:=zeroValue84
 t72:=underlying86
 a72:=isAgg86
 z72:=sizeOf86
 v72:=zeroValue86
 t75:=underlying88
 a75:=isAgg88
 z75:=sizeOf88
 v75:=zeroValue88
 t76:=underlying141
 a76:=isAgg141
 z76:=sizeOf141
 v76:=zeroValue141
 t105:=underlying201
 a105:=isAgg201
 z105:=sizeOf201
 v105:=zeroValue201
 t119:=underlying273
 a119:=isAgg273
 z119:=sizeOf273
 t127:=underlying146
 a127:=isAgg146
 z127:=sizeOf146
 v127:=zeroValue146
 t138:=underlying275
 a138:=isAgg275
 z138:=sizeOf275
 v138:=zeroValue275
 t139:=underlying276
 a139:=isAgg276
 z139:=sizeOf276
 v139:=zeroValue276
 t146:=underlying193
 a146:=isAgg193
 z146:=sizeOf193
 v146:=zeroValue193
 t164:=underlying198
 a164:=isAgg198
 z164:=sizeOf198
 v164:=zeroValue198
 g1:=by kernel_rfl
 g3:=by kernel_rfl
 g4:=by kernel_rfl}
def Tryz.Builder_Extra_154:Builder.Extra prog Tryz.lays154_ren:={
 sizeBuilder:=by kernel_rfl
 liesBuilder:=by kernel_rfl
 t5:=underlying5
 a5:=isAgg5
 z5:=sizeOf5
 v5:=zeroValue5
 infoByte:=by kernel_rfl
 cellsByte:=by kernel_rfl
 sizeByte:=by kernel_rfl
 neB5:=by decide}
open Go.RowKit Go.Lib in
def Tryz.strings_Replace(s a b:ByteArray)(n:Int)(m:Int)(w:World)(f:s.size<4294967281)(d:w.cell? ⟨5,0,none⟩=some (.int .i64 m))(h1:1<=a.size)(c:s.size+Lib.countB s a*b.size<=140737488355328):
 Calls prog 65 #[.string s,.string a,.string b,.int .i64 n] w fun e w'=>
  e=.returned (.string ⟨(Lib.replace s.data.toList a.data.toList b.data.toList n).toArray⟩)/\Below w.heap.size w w':=Any.strings_Replace Tryz.lays154 Tryz.Builder_Extra_154 s a b n m w f d h1 c
def Tryz.lays105_ren:Go.Shelf.Ren:=⟨fun|105=>25|212=>57|99=>58|165=>59|166=>60|170=>61|169=>30|263=>95|264=>96|206=>97|240=>62|241=>98|276=>99|277=>141|n=>n,fun|9=>9|3=>3|4=>4|20=>20|0=>0|46=>137|109=>138|5=>5|72=>86|76=>141|51=>192|146=>193|53=>195|148=>196|70=>84|37=>24|75=>88|127=>146|164=>198|80=>94|n=>n,fun|n=>n⟩
def Tryz.lays105:Go.Proofs.Lays.n105 prog Tryz.lays105_ren:={
 mixed:=by kernel_rfl
 f99:=func58.trans (congrArg some (by kernel_rfl))
 f105:=func25.trans (congrArg some (by kernel_rfl))
 f165:=func59.trans (congrArg some (by kernel_rfl))
 f166:=func60.trans (congrArg some (by kernel_rfl))
 f169:=func30.trans (congrArg some (by kernel_rfl))
 f170:=func61.trans (congrArg some (by kernel_rfl))
 f206:=func97.trans (congrArg some (by kernel_rfl))
 f212:=func57.trans (congrArg some (by kernel_rfl))
 f240:=func62.trans (congrArg some (by kernel_rfl))
 f241:=func98.trans (congrArg some (by kernel_rfl))
 f263:=func95.trans (congrArg some (by kernel_rfl))
 f264:=func96.trans (congrArg some (by kernel_rfl))
 f276:=func99.trans (congrArg some (by kernel_rfl))
 f277:=func141.trans (congrArg some (by kernel_rfl))
 t0:=underlying0
 a0:=isAgg0
 z0:=sizeOf0
 v0:=zeroValue0
 t3:=underlying3
 a3:=isAgg3
 z3:=sizeOf3
 v3:=zeroValue3
 t4:=underlying4
 a4:=isAgg4
 z4:=sizeOf4
 v4:=zeroValue4
 t5:=underlying5
 a5:=isAgg5
 z5:=sizeOf5
 v5:=zeroValue5
 t9:=underlying9
 a9:=isAgg9
 z9:=sizeOf9
 v9:=zeroValue9
 t20:=underlying20
 a20:=isAgg20
 z20:=sizeOf20
 v20:=zeroValue20
 t37:=underlying24
 a37:=isAgg24
 z37:=sizeOf24
 v37:=zeroValue24
 t46:=underlying137
 a46:=isAgg137
 z46:=sizeOf137
 v46:=zeroValue137
 t51:=underlying192
 a51:=isAgg192
 z51:=sizeOf192
 v51:=zeroValue192
 t53:=underlying195
 a53:=isAgg195
 z53:=sizeOf195
 v53:=zeroValue195
 t70:=underlying84
 a70:=isAgg84
 z70:=sizeOf84
 v70:=zeroValue84
 t72:=underlying86
 a72:=isAgg86
 z72:=sizeOf86
 v72:=zeroValue86
 t75:=underlying88
 a75:=isAgg88
 z75:=sizeOf88
 v75:=zeroValue88
 t76:=underlying141
 a76:=isAgg141
 z76:=sizeOf141
 v76:=zeroValue141
 t109:=underlying138
 a109:=isAgg138
 z109:=sizeOf138
 v109:=zeroValue138
 t127:=underlying146
 a127:=isAgg146
 z127:=sizeOf146
 v127:=zeroValue146
 t146:=underlying193
 a146:=isAgg193
 z146:=sizeOf193
 v146:=zeroValue193
 t148:=underlying196
 a148:=isAgg196
 z148:=sizeOf196
 v148:=zeroValue196
 t164:=underlying198
 a164:=isAgg198
 z164:=sizeOf198
 v164:=zeroValue198}
def Tryz.Builder_Extra_105:Builder.Extra prog Tryz.lays105_ren:={
 sizeBuilder:=by kernel_rfl
 liesBuilder:=by kernel_rfl
 t5:=underlying5
 a5:=isAgg5
 z5:=sizeOf5
 v5:=zeroValue5
 infoByte:=by kernel_rfl
 cellsByte:=by kernel_rfl
 sizeByte:=by kernel_rfl
 neB5:=by decide}
open Go.RowKit Go.Lib in
def Tryz.strings_Repeat(s:ByteArray)(c:Nat)(w:World)(b:c<=9223372036854775807)(a:s.size*c<=140737488355328):
 Calls prog 25 #[.string s,.int .i64 c] w fun e w'=>e=.returned (.string ⟨(Lib.repeatL s.data.toList c).toArray⟩)/\Below w.heap.size w w':=Any.strings_Repeat Tryz.lays105 Tryz.Builder_Extra_105 s c w b a
def Tryz.lays229_ren:Go.Shelf.Ren:=⟨fun|229=>88|n=>n,fun|9=>9|40=>186|31=>52|152=>230|3=>3|0=>0|4=>4|21=>21|154=>232|n=>n,fun|n=>n⟩
def Tryz.lays229:Go.Proofs.Lays.n229 prog Tryz.lays229_ren:={
 mixed:=by kernel_rfl
 f229:=func88.trans (congrArg some (by kernel_rfl))
 t0:=underlying0
 a0:=isAgg0
 z0:=sizeOf0
 v0:=zeroValue0
 t3:=underlying3
 a3:=isAgg3
 z3:=sizeOf3
 v3:=zeroValue3
 t4:=underlying4
 a4:=isAgg4
 z4:=sizeOf4
 v4:=zeroValue4
 t9:=underlying9
 a9:=isAgg9
 z9:=sizeOf9
 v9:=zeroValue9
 t21:=underlying21
 a21:=isAgg21
 z21:=sizeOf21
 v21:=zeroValue21
 t31:=underlying52
 a31:=isAgg52
 z31:=sizeOf52
 v31:=zeroValue52
 t40:=underlying186
 a40:=isAgg186
 z40:=sizeOf186
 v40:=zeroValue186
 t152:=underlying230
 a152:=isAgg230
 z152:=sizeOf230
 v152:=zeroValue230
 t154:=underlying232
 a154:=isAgg232
 z154:=sizeOf232
 v154:=zeroValue232}
open Go.RowKit Go.Lib in
def Tryz.strings_FieldsFunc_grows(g:Nat)(a:Array Value)(b:∀args w,(callFunc g args).run prog w=.ok (.enter g args) w)(p:Nat->Bool)(s:ByteArray)(w:World)(d:s.size<=4294967296)(c:PredGrows prog g a p w):
 Calls prog 88 #[.string s,.func (.func g) #[] a] w fun e w'=>∃A,e=.returned (.slice (some ⟨A,0,none⟩) (Lib.goFieldsP p s).length (Lib.goFieldsP p s).length)/\w.heap.size<=A/\
  w'.ownsRow w.heap.size 9 1 (.slice (some ⟨A,0,none⟩) (Lib.goFieldsP p s).length (Lib.goFieldsP p s).length) (Lib.goFieldsP p s).length ((Lib.goFieldsP p s).map Value.string)/\Below w.heap.size w w':=Any.strings_FieldsFunc_grows Tryz.lays229 g a b p s w d c (by kernel_rfl) (by kernel_rfl)
end
def QG{w:World}{cs xs}(h:cs=(xs.map (Value.int .i64)).toArray):SL (w.alloc (.cells cs 3)).heap.size (w.alloc (.cells cs 3)) (J (w.heap.size)) xs.length xs.length xs:=by
 subst h;refine vO.sl ⟨[],?_⟩ (aa _);rw[TL,bG]
def Jm{w:World}{cs xs b m}(a:b=w.heap.size)(c:m=xs.length)(h:cs=(xs.map (Value.int .i64)).toArray):SL (w.alloc (.cells cs 3)).heap.size (w.alloc (.cells cs 3)) (J b) m m xs:=by
 subst a c;exact QG h
def oH(i p q:Int):Bool:=!jr 10000000 40000000 [i]&& !jr 0 1000 [p]&& !jr 1 1000 [q]
def SY{w:World}{b}{x:Int}(a:b=w.heap.size):SL (w.alloc (.cells #[x] 3)).heap.size (w.alloc (.cells #[x] 3)) (J b) 1 1 [x]:=Jm a rfl rfl
def Tw{w:World}{b}{a x1:Int}(c:b=w.heap.size):SL (w.alloc (.cells #[a,x1] 3)).heap.size (w.alloc (.cells #[a,x1] 3)) (J b) 2 2 [a,x1]:=Jm c rfl rfl
def TE{w:World}{b}{a x1 x2:Int}(c:b=w.heap.size):SL (w.alloc (.cells #[a,x1,x2] 3)).heap.size (w.alloc (.cells #[a,x1,x2] 3)) (J b) 3 3 [a,x1,x2]:=Jm c rfl rfl
def TF{w:World}{b}{a x1 x2 c d:Int}(e:b=w.heap.size):SL (w.alloc (.cells #[a,x1,x2,c,d] 3)).heap.size (w.alloc (.cells #[a,x1,x2,c,d] 3)) (J b) 5 5 [a,x1,x2,c,d]:=Jm e rfl rfl
def Eg(i p q:Int)(w):Calls prog 210 #[.agg #[i,p,q]] w (iZ w (.bool (oH i p q))):=by
 go_enter func210,ntmps210
 go_wp2_with((with_reducible refine(pz _ _ _ _ _ _ _ (SY (by simp)) (by omega)).mono ?_);rintro e b ⟨rfl,a⟩;obtain⟨c,hf⟩:=rp a;(have d:w.heap.size<b.heap.size:=by(have:=a.size;(try simp at this);omega)))
 all_goals
  go_ret;refine⟨?_,by(repeat (first|exact TH _ _|apply gY|apply jA|exact below_chain1 (by assumption)|(refine I ?_ (by assumption))|(refine qo ?_ ?_)))⟩;simp[oH, *]
end Go.Proofs.YtgohdcccfkjooaaGreatDoor
