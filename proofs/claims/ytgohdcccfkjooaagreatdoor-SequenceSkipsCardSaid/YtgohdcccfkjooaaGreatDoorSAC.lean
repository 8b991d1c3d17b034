import Derived.Test.YtgohdcccfkjooaaGreatDoorSAA
namespace Go.Proofs.YtgohdcccfkjooaaGreatDoor
set_option linter.all false
set_option maxRecDepth 100000
set_option maxHeartbeats 1600000
open Go.RowKit Go.Proofs.Tryz
def sC(l){k}(h:l.length<=k):val (l.take k)=val l:=by rw[aM h]
def wY{a b p:Int}(c:0<p)(h:a*p<b*p):a<b:=Int.lt_of_mul_lt_mul_right h (by omega)
def Sr{x y m}(_:0<y)(o:m+1=(ip y).length)(j:x<y*1000000000)(r:y<=x){hi a bt}(h1:(ip x).getD (m+1) 0=hi)(h2:(ip x).getD m 0=a)(h3:(ip y).getD m 0=bt){k}(e:k=if(hi*1000000000+a)/(bt+1)=0 then 1 else(hi*1000000000+a)/(bt+1)):
 1<=k/\k<1000000000/\k*y<=x/\0<=hi/\hi<1000000000/\0<=a/\a<1000000000/\0<=bt/\bt<1000000000:=by
 have b:=(iU x).all (m+1);have c:=(iU x).all m;have d:=(iU y).all m;rw[h1]at b;rw[h2]at c;rw[h3]at d
 have f:(ip x).length<=m+2:=by
  refine iB ?_;have:=sb y;rw[<- o]at this
  calc x<y*1000000000:=j
   _<=1000000000^(m+1)*1000000000:=Ui _ (by omega)
   _=1000000000^(m+2):=(bM ..).symm
 have v:(x:Int)=val ((ip x).take m)+(a+hi*1000000000)*1000000000^m:=by
  rw[<- iY x,<- sC (ip x) f,jn,jn,h1,h2,dF,cJ];rw[show hi*(1000000000^m*1000000000)=hi*1000000000*1000000000^m by rw[bN (1000000000^m),bO]];rw[fi]
 have w:(y:Int)=val ((ip y).take m)+bt*1000000000^m:=by
  rw[<- iY y,<- sC (ip y) (k:=m+1) (by omega),jn,h3]
 have B:0<=val ((ip x).take m):=jU ((iU x).take m)
 have C:val ((ip y).take m) <1000000000^m:=by
  have:=rZ ((iU y).take m);rw[bn,cD (by omega)]at this;exact this
 have q:(0:Int) <1000000000^m:=fK (by decide);generalize hP:(1000000000:Int)^m=p at*
 have t:(y:Int) <(bt+1)*p:=by rw[cJ];omega
 have A:(hi*1000000000+a)*p<=x:=by rw[Int.add_comm (hi*1000000000)];omega
 have n:hi*1000000000+a<(bt+1)*1000000000:=by
  refine wY q ?_
  have:(x:Int) <y*1000000000:=by omega
  have l:(y:Int)*1000000000<=(bt+1)*p*1000000000:=bB (by omega) (by decide);rw[bO,bN p,<- bO]at l;omega
 generalize hu:hi*1000000000+a=u at*
 have i:0<=u:=by omega
 have g:0<=u/(bt+1):=Int.ediv_nonneg i (by omega)
 have s:u/(bt+1) <1000000000:=by
  refine Int.ediv_lt_of_lt_mul (by omega) ?_;rw[bN];exact n
 have h:u/(bt+1)*(bt+1)<=u:=Int.ediv_mul_le _ (by omega);refine⟨?_,?_,?_,b.1,b.2,c.1,c.2,d.1,d.2⟩
 .rw[e];split<;>omega
 .rw[e];split<;>omega
 .rw[e];split
  .omega
  .have h5:u/(bt+1)*(y:Int)<=u/(bt+1)*((bt+1)*p):=ed (by omega) g
   rw[<- bO]at h5;have z:u/(bt+1)*(bt+1)*p<=u*p:=bB h (by omega);omega
def D1(c ys:List Int)(k:Int)(i:Nat)(b:Int)(a:List Int):Prop:=
 a.length=c.length/\mv a/\(∀j,i<=j->a.getD j 0=c.getD j 0)/\val (a.take i)+b*1000000000^i=val (c.take i)-k*val (ys.take i)/\ -1000000000<=b/\b<=0
def D1.start{a ys k}(h:mv a):D1 a ys k 0 0 a:=⟨rfl,h,fun _ _=>rfl,by simp[val],by omega,by omega⟩
def C5{x k:Int}(b:0<=x/\x<1000000000)(a:0<=k/\k<1000000000):0<=x*k/\x*k<=999999998000000001:=vj b a
def D1.step{f ys g k c i}(h:D1 f ys k i c g)(n:mv ys)(l:0<=k)(m:k<1000000000)(hi:i<f.length):
 D1 f ys k (i+1) ((f.getD i 0-ys.getD i 0*k+c)/1000000000) (g.set i ((f.getD i 0-ys.getD i 0*k+c)%1000000000)):=by
 obtain⟨h1,h2,h3,r,h5,s⟩:=h;have a:=h2.all i;rw[h3 i (aa _)]at a;have b:=C5 (n.all i) ⟨l,m⟩;refine⟨by simpa using h1,fun j _=>?_,fun j t=>?_,?_,by omega,by omega⟩
 .rw[rH];split
  .omega
  .exact h2.all j
 .rw[rH,aj (by omega)];exact h3 j (by omega)
 .rw[jn,jn,jn,rH,aq ⟨rfl,by omega⟩,List.take_set_of_le (aa _)]
  generalize f.getD i 0=d at*;generalize ys.getD i 0=y at*;generalize val (g.take i)=vo at*;generalize val (f.take i)=vr at*;generalize val (ys.take i)=vy at*;rw[dF];generalize(1000000000:Int)^i=p at*
  have e:(d-y*k+c)%1000000000*p+(d-y*k+c)/1000000000*(p*1000000000)=(d-y*k+c)*p:=by
   rw[bN p 1000000000,<- bO,<- cJ];congr 1;omega
  have o:(d-y*k+c)*p=d*p-k*(y*p)+c*p:=by
   rw[cJ,Int.sub_mul,bN y k,bO]
  have q:k*(vy+y*p)=k*vy+k*(y*p):=eh _ _ _;omega
def D1.done{a ys b k c}(h:D1 a ys k a.length c b)(e:ys.length<=a.length)(f:k*val ys<=val a):mv b/\val b=val a-k*val ys:=by
 obtain⟨h1,h2,h3,d,h5,g⟩:=h;rw[<- h1,bf,h1,bf,sC ys e]at d;refine⟨h2,?_⟩;have hlt:=rZ h2;rw[h1]at hlt;have j:(0:Int) <1000000000^a.length:=fK (by decide);generalize(1000000000:Int)^a.length=p at*
 have:c=0:=by
  apply bg;intro i;have:c*p<= -1*p:=bB (by omega) (by omega);omega
 subst this;omega

def uZ{N y k}(h:N<y*1000000000)(a:(ip y).length<=k):(ip N).length<=k+1:=by
 refine iB ?_;have h1:=sb y;have h3:=dA (n:=1000000000) (by decide) a;rw[bM];exact ab h (Ui _ (by omega))
def Pt(zs a)(n c i:Nat)(b z)(w:World)(d:b=(i:Int))(h:SL w w a n c zs)(f:n<=1000000)(hi:i<=1000000)(g:zs.getD i 0=z):
 Calls prog 253 #[Z a n c,b] w (fun e w'=>e=.returned (.int .i64 z)/\w=w'):=by
 subst d;exact ux zs a n c i z w h f hi g
def BY(X)(h1: -999999998000000001-1000000000<=X)(h2:X<=999999999):
 -1000000000<=X.tdiv 1000000000/\X.tdiv 1000000000<=0/\ -1000000000<X.tmod 1000000000/\X.tmod 1000000000<1000000000/\
  ((0<=X.tmod 1000000000/\X.tdiv 1000000000=X/1000000000/\X.tmod 1000000000=X%1000000000)\/
   (X.tmod 1000000000<0/\X.tdiv 1000000000-1=X/1000000000/\X.tmod 1000000000+1000000000=X%1000000000)):=by
 by_cases h:0<=X
 .rw[bL h,bu h]
  omega
 .rw[xC (by omega),xB (by omega)]
  omega
def Kz(B:Nat)(w:World)(a:Option Addr)(n c:Nat)(r:Nat):Prop:=
 SL w w a n c (ip r)/\(n=0\/ ∃g,a=some ⟨g,0,none⟩/\vO w g (ip r)/\B<=g)/\(a=none->c=0)
def Pu(B:Nat)(w:World)(x y:Nat)(d b:Value)(wr:World):Prop:=
 ∃(r q:Nat)(a:Option Addr)(n c:Nat),d=.slice a n c/\b=.int .i64 (q:Int)/\x=q*y+r/\Kz B wr a n c r/\Below B w wr
def KA(B x y a b n m c d w)(ha:Kz B w a n c x)(hb:SL B w b m d (ip y))(hB:B<=w.heap.size)(hy:0<y)(e8:x<y*1000000000)(hm:m<=599):
 Calls prog 223 #[Z a n c,Z b m d] w
  (fun e w'=>∃a' n' c',e=.returned (.tuple #[Z a' n' c',.int .i64 ((x/y:Nat):Int)])/\Kz B w' a' n' c' (x%y)/\Below B w w'):=by
 have Ha:=O ha;have Hb:=O hb;have c8:=O e8;clear ha hb e8;go_enter func223,ntmps223;go_wp2_with fail
 go_loopw [0,6] (fun rv nv wr=>Pu B w x y rv nv wr) (fun _ nv _=>x-(intOf nv).toNat)
 case atStart=>exact⟨x,0,a,n,c,rfl,rfl,by omega,Ha,TH _ _⟩
 case round=>
  clear Ha;obtain⟨r,q,a,n,c,rfl,rfl,P,ho,R⟩:=hrel;have Hx:=O P;have z:=O ho;have e0:SL wr wr b m d (ip y):=(Hb.below R (aa _)).mono (by have:=R.size;omega);have d8:=O e0
  have hn:n<=600:=by
   rw[ho.1.len];exact uZ (y:=y) (cX (by have:=Hx.out;omega) c8) (by rw[<- Hb.len];exact hm)
  have hq:(q:Int) <1000000000:=by
   have h1:q*y<1000000000*y:=by have:=c8.out;rw[cd 1000000000];omega
   have:=Nat.lt_of_mul_lt_mul_right h1;omega
  clear P ho e0;by_cases c3:r<y
  .have hd:decide (r<y)=true:=by simpa using c3
   go_wp2_with fail;refine(tP r y a b n m c d _ z.1 d8 (by omega)).mono ?_;rintro e w2 ⟨rfl,nk,rfl⟩;rw[hd]
   have e5:q=x/y:=by
    rw[Hx];exact(Nat.div_eq_of_lt_le (by omega) (by rw[dB];omega)).symm
   have e6:r=x%y:=by
    rw[Hx,cd,Nat.mul_add_mod];exact(cV c3).symm
   have f0:=O e5;have f1:=O e6;clear hd c3 e5 e6;go_wp2;go_ret2;rw[<- f0,<- f1];exact⟨a,n,c,rfl,z,gV R _⟩
  .have hd:decide (r<y)=false:=by simpa using c3
   have e7:r<y*1000000000:=by have h1:=c8.out;have h2:=Hx.out;omega
   obtain⟨M,hM⟩:∃M,m=M+1:=⟨m-1,by
    have h1:=Hb.len
    have:(ip y).length≠0:=fun e=>by have:=jC.1 e;omega
    omega⟩
   have g7:(m:Int)-1=(M:Int):=by omega
   have g0:M<m:=by omega
   have HM:=O hM;clear hM
   have g6:M+1<=n:=by
    have hM:=HM.out;have h1:=Hb.len;have h2:=z.1.len;have h3:=iM (n:=y) (m:=r) (by omega);omega
   have g4:M<n:=by omega
   obtain⟨bb,ob,rfl,f3,cb⟩:=Hb.at (by omega);have d7:=z.2.1
   obtain hn0|⟨g,rfl,f,hgB⟩:=d7
   .omega
   have g1:=f.cell (j:=M) (by rw[<- z.1.len];omega);have g2:=(R.cell (p:=⟨bb,ob+M,none⟩) f3).trans (cb M (by omega));have f7:=O cb
   obtain⟨K,hK⟩:∃K:Int,K=if(((ip r).getD (M+1) 0)*1000000000+(ip r).getD M 0)/((ip y).getD M 0+1)=0 then 1 else(((ip r).getD (M+1) 0)*1000000000+(ip r).getD M 0)/((ip y).getD M 0+1):=⟨_,rfl⟩
   obtain⟨f9,c2,d9,h0,h1,h2,h3,D,h5⟩:=Sr (x:=r) (y:=y) (m:=M) hy (by rw[<- Hb.len,HM]) e7 (by omega) rfl rfl rfl hK;generalize hhi:(ip r).getD (M+1) 0=hi at*;generalize htop:(ip r).getD M 0=top at*;generalize hbt:(ip y).getD M 0=bt at*;have e1:(hi*1000000000+top).tdiv (bt+1)=(hi*1000000000+top)/(bt+1):=bL (by omega);have e2:0<=(hi*1000000000+top)/(bt+1):=Int.ediv_nonneg (by omega) (by omega);generalize hk0:(hi*1000000000+top)/(bt+1)=k0 at*
   have e3:¬(bt+1=0):=by omega
   have e4:k0<=K:=by rw[hK];split<;>omega
   have v1:IntKind.i64.wrap ((M:Int)+1)=(M:Int)+1:=TM _ (by omega);have v2:IntKind.i64.wrap (hi*1000000000)=hi*1000000000:=TM _ (by omega);have v3:IntKind.i64.wrap (hi*1000000000+top)=hi*1000000000+top:=TM _ (by omega);have v4:IntKind.i64.wrap (bt+1)=bt+1:=TM _ (by omega);have v5:IntKind.i64.wrap k0=k0:=TM _ (by omega);have f8:=O hk0;have e9:=O hhi;have c0:=O d9;have a0:=O f;clear hk0 htop hbt hhi cb d9 e7;go_wp2_with fail;refine(tP r y _ _ n m c d _ z.1 d8 (by omega)).mono ?_;rintro e w2 ⟨rfl,nk,rfl⟩;rw[hd];clear hd;go_wp2_with fail;refine gS 16 [(0,true),(1,true),(2,true),(5,true),(6,true),(7,true),(8,true),(10,true),(11,true),(12,true),(13,true),(14,true),(3,false),(4,true),(9,true),(15,true)] (by kernel_rfl) (by kernel_rfl) ?_
   iterate 12
    refine gU (v:=?_) ?_ ?_;rotate_left
    .intro x P
     have z1:=(P.cell (p:=⟨g,M,none⟩) a0.lt).trans g1;have z2:=(P.cell (p:=⟨bb,ob+M,none⟩) (by show bb<wr.heap.size;have:=R.size;omega)).trans g2;go_simp;rfl
    try simp only[V]
   refine gP (fun KK N=>?_);go_simp;refine(Pt (ip r) _ n c (M+1) _ hi _ (by omega) (by exact z.1) (by omega) (by omega) e9).mono ?_;rintro e w4 ⟨rfl,rfl⟩;refine N _ _ (TH _ _) ?_;clear N KK;try simp only[V]
   iterate 3
    refine gU (v:=?_) ?_ ?_;rotate_left
    .intro x P
     go_simp;rfl
    try simp only[V]
   refine iu rfl ?_;by_cases F:k0=0
   .have c1:K=1:=by rw[hK,aq F]
    have Q:=O c1;subst F;clear hK c1 e1 g1 g2;go_wp2_with fail;clear v1 v2 v3 v4 v5 e2 e3 e4;obtain⟨wo,rfl⟩:∃wo:World,wo=wr:=⟨_,rfl⟩
    go_loopw [9,10] (fun cv iv wr=>∃(i:Nat)(cr:Int)(l:List Int),cv=.int .i64 cr/\iv=.int .i64 (i:Int)/\i<=n/\vO wr g l/\D1 (ip r) (ip y) K i cr l/\Below B w wr) (fun _ iv _=>n-(intOf iv).toNat)
    case atStart=>exact⟨0,0,ip r,rfl,rfl,aA _,a0.drew _,D1.start (iU r),gV R _⟩
    case round=>
     obtain⟨i,cr,l,rfl,rfl,hi,f,s,k⟩:=hrel
     have b6:l.length=n:=by rw[s.1,<- z.1.len]
     have C:=O b6;clear b6;by_cases d1:i<n
     .have g1:=f.cell (j:=i) (by have:=C.out;omega)
      rw[s.2.2.1 i (aa _)]at g1;have g3:=f.free i;have f6:=(iU r).all i;have d4:=(iU y).all i;have f4:=s.2.2.2.2.1;have f5:=s.2.2.2.2.2;have b9:=s.step (iU y) (by omega) c2 (by rw[<- z.1.len];exact d1);have a9:=(Hb.below k (aa _)).mono (show B<=wr.heap.size by have:=k.size;omega);have hgl:=f.lt;obtain⟨b1,b2⟩:=C5 d4 ⟨by omega,c2⟩;have c4:=O a9;generalize hxx:(ip r).getD i 0=ri at*;generalize hyy:(ip y).getD i 0=yi at*;generalize hpK:yi*K=p at*;generalize hX:ri-p+cr=X at*
      have x1: -999999998000000001-1000000000<=X:=by omega
      have x2:X<=999999999:=by omega
      have a7:=O b9;have c9:=O hyy;have Hp:=O s;clear b9 hyy hxx s a9
      first
       |(have d3:p=yi:=by
          rw[<- hpK,Q,Int.mul_one]
         subst d3
         clear hpK)
       |skip
      have v6:IntKind.i64.wrap p=p:=TM _ (by omega);have v7:IntKind.i64.wrap (ri-p)=ri-p:=TM _ (by omega);have v8:IntKind.i64.wrap X=X:=TM _ (by omega);go_wp2_with fail;refine gS 12 [(0,true),(1,true),(2,true),(3,true),(4,true),(5,true),(7,true),(10,true),(6,false),(8,true),(9,true),(11,true)] (by kernel_rfl) (by kernel_rfl) ?_
      iterate 8
       refine gU (v:=?_) ?_ ?_;rotate_left
       .intro x P
        have z1:=(P.cell (p:=⟨g,i,none⟩) hgl).trans g1;go_simp;rfl
       try simp only[V]
      refine gP (fun KK N=>?_);go_simp;refine(ux (ip y) _ m d i _ _ (by exact c4) (by omega) (by omega) c9).mono ?_;rintro e w4 ⟨rfl,rfl⟩;refine N _ _ (TH _ _) ?_;clear N KK;try simp only[V]
      iterate 3
       refine gU (v:=?_) ?_ ?_;rotate_left
       .intro x P
        go_simp;rfl
       try simp only[V]
      refine iu rfl ?_;have h3:=BY X x1 x2;generalize hQ0:X.tdiv 1000000000=Q0 at h3;generalize hR0:X.tmod 1000000000=R0 at h3;obtain⟨y1,y2,y3,y4,h3⟩:=h3;clear x1 x2
      obtain ⟨h3,D,h5⟩|⟨h3,D,h5⟩:=h3
      .have f2:¬R0<0:=by omega
       have H4:=O D;have H5:=O h5;clear D h5 h3;go_wp2
       go_roundw
       case rel=>
        refine⟨i+1,Q0,_,rfl,by go_num,by omega,f.set i (by have:=C.out;omega) R0,?_,gV (show Below B w (World.setCell wr ⟨g,i,none⟩ _)from k.setCell hgB _) 1⟩;have:=a7.out;rw[<- H4,<- H5]at this;exact this
       case measure=>simp[intOf];omega
      .have H4:=O D;have H5:=O h5;clear D h5
       go_wp2
       go_roundw
       case rel=>
        refine⟨i+1,Q0-1,_,rfl,by go_num,by omega,f.set i (by have:=C.out;omega) (R0+1000000000),?_,gV (show Below B w (World.setCell wr ⟨g,i,none⟩ _)from k.setCell hgB _) 1⟩;have:=a7.out;rw[<- H4,<- H5]at this;exact this
       case measure=>simp[intOf];omega
     .obtain rfl:i=n:=by omega
      have d0:mv l/\val l=val (ip r)-K*val (ip y):=by
       have d2:=z.1.len;have h:=s;rw[d2]at h;exact h.done (iM (by omega)) (by rw[iY,iY];exact c0)
      obtain⟨E,t⟩:=d0;rw[iY,iY]at t;obtain⟨u,b7⟩:∃u:Nat,(u:Int)=(r:Int)-K*y:=⟨((r:Int)-K*y).toNat,cH (by have:=c0.out;omega)⟩;obtain⟨kn,S⟩:∃kn:Nat,(kn:Int)=K:=⟨K.toNat,cH (by omega)⟩
      have b8:r=kn*y+u:=by
       have h1:(r:Int)=(kn:Int)*y+u:=by rw[S];omega
       rw[<- bW,<- et]at h1;exact ge.1 h1
      have W:val l=(u:Int):=by rw[t,b7]
      have H:(ip (val l).toNat).length<=600:=by
       rw[W,aI];have:=iM (n:=u) (m:=r) (by omega);rw[<- z.1.len]at this;omega
      have T:=f.sl (c:=c) (by have:=C.out;have:=z.1.cap;omega);rw[C]at T;have c6:=O T;have a1:=O E;have a2:=O H;have c7:=O W;have a6:=O b8;have a4:=O S;clear T E H W b8 S t b7 s;have hgl:=f.lt;go_wp2_with fail;refine(vX false l (u:Int) _ _ _ _ c6 a1 (by omega) a2 (by rw[c7];rfl)).mono ?_;rintro e w5 ⟨s5,a5,n5,c5,rfl,b4,a8,b3,b5,b0⟩;have a3:Below B w w5:=k.trans (a8.mono (by have:=k.size;omega))
      have o:Kz B w5 a5 n5 c5 u:=by
       refine⟨by simpa using b4.2.1,?_,b0⟩
       obtain h|⟨g5,h,hbk⟩:=b5
       .exact VR h
       .by_cases d5:n5=0
        .exact VR d5
        .refine VS ⟨g5,h,by simpa using hbk,?_⟩
         have:=b3 g5 0 h (by omega);have:=k.size;omega
      have L:=O o;clear b4 b3 b5 o a8 b0;go_wp2_with fail
      change (?K:Act->World->Prop) (Act.put ?A _ (Value.slice a5 n5 c5)) _
      go_wp2
      go_roundw
      case rel=>
       refine⟨u,q+kn,a5,n5,c5,rfl,?_,?_,L,a3⟩
       .have:=a4.out
        have h2:=Q.out
        first
         |(show Value.int .i64 _=Value.int .i64 _;congr 1;omega)
       .rw[Hx,a6,dB,cN]
      case measure=>
       have h1:=Hx.out;have h2:=a6.out;have h3:=a4.out;have D:=Q.out;have h5:kn*1<=kn*y:=eu _ hy;have h6:q*1<=q*y:=eu _ hy;simp[intOf];omega
   .have c1:K=k0:=by rw[hK,aj F]
    have d6:(k0==0)=false:=by simpa using F
    subst c1;clear hK F e1 g1 g2;have Q:=O (rfl:K=K);go_wp2_with fail;clear v1 v2 v3 v4 v5 e2 e3 e4 d6;obtain⟨wo,rfl⟩:∃wo:World,wo=wr:=⟨_,rfl⟩
    go_loopw [9,10] (fun cv iv wr=>∃(i:Nat)(cr:Int)(l:List Int),cv=.int .i64 cr/\iv=.int .i64 (i:Int)/\i<=n/\vO wr g l/\D1 (ip r) (ip y) K i cr l/\Below B w wr) (fun _ iv _=>n-(intOf iv).toNat)
    case atStart=>exact⟨0,0,ip r,rfl,rfl,aA _,a0.drew _,D1.start (iU r),gV R _⟩
    case round=>
     obtain⟨i,cr,l,rfl,rfl,hi,f,s,k⟩:=hrel
     have b6:l.length=n:=by rw[s.1,<- z.1.len]
     have C:=O b6;clear b6;by_cases d1:i<n
     .have g1:=f.cell (j:=i) (by have:=C.out;omega)
      rw[s.2.2.1 i (aa _)]at g1;have g3:=f.free i;have f6:=(iU r).all i;have d4:=(iU y).all i;have f4:=s.2.2.2.2.1;have f5:=s.2.2.2.2.2;have b9:=s.step (iU y) (by omega) c2 (by rw[<- z.1.len];exact d1);have a9:=(Hb.below k (aa _)).mono (show B<=wr.heap.size by have:=k.size;omega);have hgl:=f.lt;obtain⟨b1,b2⟩:=C5 d4 ⟨by omega,c2⟩;have c4:=O a9;generalize hxx:(ip r).getD i 0=ri at*;generalize hyy:(ip y).getD i 0=yi at*;generalize hpK:yi*K=p at*;generalize hX:ri-p+cr=X at*
      have x1: -999999998000000001-1000000000<=X:=by omega
      have x2:X<=999999999:=by omega
      have a7:=O b9;have c9:=O hyy;have Hp:=O s;clear b9 hyy hxx s a9
      first
       |(have d3:p=yi:=by
          rw[<- hpK,Q,Int.mul_one]
         subst d3
         clear hpK)
       |skip
      have v6:IntKind.i64.wrap p=p:=TM _ (by omega);have v7:IntKind.i64.wrap (ri-p)=ri-p:=TM _ (by omega);have v8:IntKind.i64.wrap X=X:=TM _ (by omega);go_wp2_with fail;refine gS 12 [(0,true),(1,true),(2,true),(3,true),(4,true),(5,true),(7,true),(10,true),(6,false),(8,true),(9,true),(11,true)] (by kernel_rfl) (by kernel_rfl) ?_
      iterate 8
       refine gU (v:=?_) ?_ ?_;rotate_left
       .intro x P
        have z1:=(P.cell (p:=⟨g,i,none⟩) hgl).trans g1;go_simp;rfl
       try simp only[V]
      refine gP (fun KK N=>?_);go_simp;refine(ux (ip y) _ m d i _ _ (by exact c4) (by omega) (by omega) c9).mono ?_;rintro e w4 ⟨rfl,rfl⟩;refine N _ _ (TH _ _) ?_;clear N KK;try simp only[V]
      iterate 3
       refine gU (v:=?_) ?_ ?_;rotate_left
       .intro x P
        go_simp;rfl
       try simp only[V]
      refine iu rfl ?_;have h3:=BY X x1 x2;generalize hQ0:X.tdiv 1000000000=Q0 at h3;generalize hR0:X.tmod 1000000000=R0 at h3;obtain⟨y1,y2,y3,y4,h3⟩:=h3;clear x1 x2
      obtain ⟨h3,D,h5⟩|⟨h3,D,h5⟩:=h3
      .have f2:¬R0<0:=by omega
       have H4:=O D;have H5:=O h5;clear D h5 h3;go_wp2
       go_roundw
       case rel=>
        refine⟨i+1,Q0,_,rfl,by go_num,by omega,f.set i (by have:=C.out;omega) R0,?_,gV (show Below B w (World.setCell wr ⟨g,i,none⟩ _)from k.setCell hgB _) 1⟩;have:=a7.out;rw[<- H4,<- H5]at this;exact this
       case measure=>simp[intOf];omega
      .have H4:=O D;have H5:=O h5;clear D h5
       go_wp2
       go_roundw
       case rel=>
        refine⟨i+1,Q0-1,_,rfl,by go_num,by omega,f.set i (by have:=C.out;omega) (R0+1000000000),?_,gV (show Below B w (World.setCell wr ⟨g,i,none⟩ _)from k.setCell hgB _) 1⟩;have:=a7.out;rw[<- H4,<- H5]at this;exact this
       case measure=>simp[intOf];omega
     .obtain rfl:i=n:=by omega
      have d0:mv l/\val l=val (ip r)-K*val (ip y):=by
       have d2:=z.1.len;have h:=s;rw[d2]at h;exact h.done (iM (by omega)) (by rw[iY,iY];exact c0)
      obtain⟨E,t⟩:=d0;rw[iY,iY]at t;obtain⟨u,b7⟩:∃u:Nat,(u:Int)=(r:Int)-K*y:=⟨((r:Int)-K*y).toNat,cH (by have:=c0.out;omega)⟩;obtain⟨kn,S⟩:∃kn:Nat,(kn:Int)=K:=⟨K.toNat,cH (by omega)⟩
      have b8:r=kn*y+u:=by
       have h1:(r:Int)=(kn:Int)*y+u:=by rw[S];omega
       rw[<- bW,<- et]at h1;exact ge.1 h1
      have W:val l=(u:Int):=by rw[t,b7]
      have H:(ip (val l).toNat).length<=600:=by
       rw[W,aI];have:=iM (n:=u) (m:=r) (by omega);rw[<- z.1.len]at this;omega
      have T:=f.sl (c:=c) (by have:=C.out;have:=z.1.cap;omega);rw[C]at T;have c6:=O T;have a1:=O E;have a2:=O H;have c7:=O W;have a6:=O b8;have a4:=O S;clear T E H W b8 S t b7 s;have hgl:=f.lt;go_wp2_with fail;refine(vX false l (u:Int) _ _ _ _ c6 a1 (by omega) a2 (by rw[c7];rfl)).mono ?_;rintro e w5 ⟨s5,a5,n5,c5,rfl,b4,a8,b3,b5,b0⟩;have a3:Below B w w5:=k.trans (a8.mono (by have:=k.size;omega))
      have o:Kz B w5 a5 n5 c5 u:=by
       refine⟨by simpa using b4.2.1,?_,b0⟩
       obtain h|⟨g5,h,hbk⟩:=b5
       .exact VR h
       .by_cases d5:n5=0
        .exact VR d5
        .refine VS ⟨g5,h,by simpa using hbk,?_⟩
         have:=b3 g5 0 h (by omega);have:=k.size;omega
      have L:=O o;clear b4 b3 b5 o a8 b0;go_wp2_with fail
      change (?K2:Act->World->Prop) (Act.put ?A2 _ (Value.slice a5 n5 c5)) _
      go_wp2
      go_roundw
      case rel=>
       refine⟨u,q+kn,a5,n5,c5,rfl,?_,?_,L,a3⟩
       .have:=a4.out
        have h2:=Q.out
        first
         |(show Value.int .i64 _=Value.int .i64 _;congr 1;omega)
       .rw[Hx,a6,dB,cN]
      case measure=>
       have h1:=Hx.out;have h2:=a6.out;have h3:=a4.out;have D:=Q.out;have h5:kn*1<=kn*y:=eu _ hy;have h6:q*1<=q*y:=eu _ hy;simp[intOf];omega
def P0(xs:List Int)(y i:Nat)(a:List Int)(r:Nat):Prop:=
 a.length=xs.length/\mv a/\r<y/\val (xs.drop i)=val (a.drop i)*y+r
def P0.start{xs y}(a:0<y):P0 xs y xs.length (List.replicate xs.length 0) 0:=by
 refine⟨by simp,fun j _=>?_,a,by simp[val]⟩;simp only[ah,eR];split<;>simp
def P0.step{xs b}{y i r N:Nat}(h:P0 xs y (i+1) b r)(hi:i<xs.length)(k:(N:Int)=xs.getD i 0+1000000000*r)(f:mv xs)(g:0<y):
 P0 xs y i (b.set i ((N/y:Nat):Int)) (N%y)/\N<y*1000000000:=by
 obtain⟨h1,h2,h3,d⟩:=h;have a:=f.all i
 have c:N<y*1000000000:=by omega
 have n:N/y<1000000000:=eb (by omega)
 have m:(N:Int)=((N/y:Nat):Int)*y+((N%y:Nat):Int):=by
  have:=dc N y;rw[cd]at this;have h5:=ai (Nat.cast (R:=Int)) this;rw[et,bW]at h5;exact h5.symm
 have e:=cx N g;generalize N/y=Q at*;generalize N%y=R at*;refine⟨⟨by simpa using h1,fun j _=>?_,e,?_⟩,c⟩
 .rw[rH];split
  .omega
  .exact h2.all j
 .rw[Ea hi,Ea (l:=b.set i _) (by simpa using(by omega:i<b.length)),rH,aq ⟨rfl,by omega⟩,List.drop_set_of_lt (by omega),d]
  generalize val (b.drop (i+1))=v;rw[cJ,bO];generalize(Q:Int)*y=p at*;generalize v*(y:Int)=u at*;omega
def KB(w:World)(o p q r):((((w.alloc o).alloc p).alloc q).alloc r).heap[w.heap.size]? =some o/\((((w.alloc o).alloc p).alloc q).alloc r).heap[w.heap.size+1]? =some p/\
 ((((w.alloc o).alloc p).alloc q).alloc r).heap[w.heap.size+2]? =some q/\((((w.alloc o).alloc p).alloc q).alloc r).heap[w.heap.size+3]? =some r:=by
 obtain⟨a,b,c⟩:=jh w o p q;refine⟨?_,?_,?_,?_⟩
 .rw[TJ _ _ _ (by simp<;>omega)];exact a
 .rw[TJ _ _ _ (by simp<;>omega)];exact b
 .rw[TJ _ _ _ (by simp)];exact c
 .have:=TL (((w.alloc o).alloc p).alloc q) r
  simpa using this
def GM(w:World)(o p q r):Below w w ((((w.alloc o).alloc p).alloc q).alloc r):=
 ((((TH _ _).alloc (aa _) _).alloc (by simp) _).alloc (by simp;omega) _).alloc (by simp;omega) _
def MX(w:World)(base)(x:Int)(a:base<=w.heap.size):
 (w.alloc (.cells #[x] 3)).ownsRow base 3 1 (.slice (J (w.heap.size)) 1 1) 1 ([x].map (Value.int .i64)):=
 ⟨rfl,.inr ⟨w.heap.size,1,#[x],rfl,a,TL w _,aa _,by unfold maxLen;omega,rfl,rfl⟩⟩
def C9(s a n c x):
 ((Sem.run prog (Instr.field 221 (Value.agg #[Value.bool s,Value.slice a n c]) 1) x).andThen fun a w'=>Result.ok (Next.value a) w')=Result.ok (Next.value (Value.slice a n c)) x:=by
 kernel_rfl
def Ss(w:World)(x y:Int)(e:Ending)(w':World):Prop:=
 ∃s a n c s' a' n' c',e=.returned (.tuple #[.agg #[.bool s,Z a n c],.agg #[.bool s',Z a' n' c']])/\LG w' w' s a n c x/\LG w' w' s' a' n' c' y/\Below w w w'/\kS w a n/\kS w a' n'
def Bd(a b:Bool)(q:Nat):Int:=if(!(a==b))then -((q:Nat):Int)else((q:Nat):Int)
def GN(a:Bool)(r:Nat):Int:=if a then -((r:Nat):Int)else((r:Nat):Int)
def oO(F sy X f1 x y)(hX:X.natAbs=x)(hY:f1.natAbs=y)(a b n m c d)(w:World)(ha:LG w w F a n c X)(hb:LG w w sy b m d f1)(hy:0<y)(hm:m<=599):
 Calls prog 175 #[.agg #[F,Z a n c],.agg #[sy,Z b m d]] w (Ss w (Bd F sy (x/y)) (GN F (x%y))):=by
 have hn:=ha.2.2;have Ha:=O ha;have Hb:=O hb;clear ha hb;go_enter func175,ntmps175
 go_wp2_with(refine oE rfl (.tmp 12) (.tmp 12) 162 rfl underlying162 (n:Int) n rfl rfl (by omega) (by omega) ?_)
 intro w1 s f3
 have q:Below ((((w.alloc (.cells #[F,Z a n c] 221)).alloc (.cells #[sy,Z b m d] 221)).alloc (.cells #[false,oN] 221)).alloc (.cells #[false,oN] 221)).heap.size
  ((((w.alloc (.cells #[F,Z a n c] 221)).alloc (.cells #[sy,Z b m d] 221)).alloc (.cells #[false,oN] 221)).alloc (.cells #[false,oN] 221)) w1:=by simpa using f3
 obtain⟨d1,d2,d3,d4⟩:=KB w (.cells #[F,Z a n c] 221) (.cells #[sy,Z b m d] 221) (.cells #[false,oN] 221) (.cells #[false,oN] 221);have e1:=(q.block _ (by simp<;>omega)).trans d1;have e2:=(q.block _ (by simp<;>omega)).trans d2;have e3:=(q.block _ (by simp)).trans d3;have e4:=(q.block _ (by simp)).trans d4;have j1:=(GM w _ _ _ _).trans (q.mono (by simp<;>omega));clear f3 q d1 d2 d3 d4
 have h7:w.heap.size+3<w.heap.size+1+1+1+1:=by omega
 generalize w.heap.size+1+1+1+1=g at*;have a9:=Ha.2.1;have c1:=Hb.2.1;rw[hX]at a9;rw[hY]at c1;have g9:=iU x;have j0:=iY x;have l1:=a9.len;generalize ip x=xs at*;obtain rfl:=l1;have b7:=O g9;have f0:=O j0;have j3:=O a9;have a7:=O c1;have l:=O h7;obtain⟨q1,q2,_,_⟩:=gQ e1;have E1:=O e1;have E2:=O e2;have E3:=O e3;have E4:=O e4;clear g9 j0 a9 c1 Ha Hb e1 e2 e3 e4 h7;go_wp2_with fail;clear q1 q2
 go_loopw [7,8] (fun rv iv wr=>∃(i r:Nat)(ra:Option Addr)(rn rc:Nat)(W:List Int),rv=.slice ra rn rc/\iv=.int .i64 ((i:Int)-1)/\i<=xs.length/\vO wr g W/\P0 xs y i W r/\SL wr wr ra rn rc (ip r)/\(ra=none->rc=0)/\kS (g+1) ra rn/\Below g w1 wr) (fun _ iv _=>(intOf iv+1).toNat)
 case atStart=>exact⟨xs.length,0,none,0,0,_,rfl,rfl,aa _,s,P0.start hy,by rw[jP];exact SL.nil _ _ _ _,fun _=>rfl,kS.zero _ _,TH _ _⟩
 case round=>
  clear s;obtain⟨i,r,ra,rn,rc,W,rfl,rfl,hi,s,hp,i8,b4,h6,D⟩:=hrel;have Hp:=O hp;have a0:=O i8;have d6:=O b4;have m2:=O h6;have hgl:=s.lt;have g1:=(D.block w (by have:=l.out;omega)).trans E1;have g2:=(D.block (w+1) (by have:=l.out;omega)).trans E2;have g3:=(D.block (w+2) (by have:=l.out;omega)).trans E3;have g4:=(D.block (w+3) (by have:=l.out;omega)).trans E4;obtain⟨q1,q2,_,_⟩:=gQ g1;obtain⟨q3,q4,_,_⟩:=gQ g2;obtain⟨q5,q6,f5,f6⟩:=gQ g3;obtain⟨q7,q8,f7,f8⟩:=gQ g4;clear g1 g2 g3 g4 hp i8 b4 h6;by_cases h8:i=0
  .subst h8
   have hd:=Hp.out;obtain⟨i6,c3,c7,hv⟩:=hd;rw[dW,dW,f0]at hv
   have hq:val W=((x/y:Nat):Int)/\r=x%y:=by
    obtain⟨Q,hQ⟩:∃Q:Nat,(Q:Int)=val W:=⟨(val W).toNat,cH (jU c3)⟩;rw[<- hQ]at hv⊢
    have T:x=Q*y+r:=by
     rw[<- bW,<- et]at hv;exact ge.1 hv
    refine⟨?_,?_⟩
    .congr 1
     rw[T];exact(Nat.div_eq_of_lt_le (by omega) (by rw[dB];omega)).symm
    .rw[T,cd,Nat.mul_add_mod];exact(cV c7).symm
   obtain⟨c2,i5⟩:=hq
   have i1:(ip (val W).toNat).length<=600:=by
    rw[c2,aI];refine af (iB (k:=xs.length) ?_) hn;have h1:=rZ b7
    have h3:(x:Int) <((1000000000^xs.length:Nat):Int):=by rw[<- f0,dM];exact h1
    have h4:=gr.1 h3;have h2:=dp x y;omega
   have S:=s.sl (c:=xs.length) (by omega);rw[i6]at S;have d8:=O S;have k0:=O c3;have j6:=O i1;have j8:=O c2;have j9:=O i5;have k2:=O c7;clear S c3 i1 c2 i5 i6 hv c7;go_wp2_with fail;refine gS 11 [(0,true),(1,true),(2,true),(3,true),(4,true),(5,true),(7,true),(8,true),(9,true),(6,false),(10,false)] (by kernel_rfl) (by kernel_rfl) ?_
   iterate 9
    refine gU (v:=?_) ?_ ?_;rotate_left
    .intro x T
     have z1:=(T.cell (p:=J (w.heap.size)) (by show w.heap.size<wr.heap.size;have:=l.out;omega)).trans q1;have z3:=(T.cell (p:=J (w+1)) (by show w.heap.size+1<wr.heap.size;have:=l.out;omega)).trans q3;go_simp;rfl
    try simp only[V]
   refine gP (fun KK o=>?_);go_simp;refine(nl (!(F==sy)) W (Bd F sy (x/y)) _ _ _ _ (by exact d8) k0 (by omega) j6 (by rw[j8];unfold Bd;rfl)).mono ?_;rintro e w4 ⟨s4,a4,n4,c4,rfl,b1,b9,h5⟩;refine o _ _ b9 ?_;clear o KK;(try simp only[V]);have P:=gJ (k:=1) b9;have b5:SL w4 w4 ra rn rc (ip r):=a0.go P;have d7:=O b5;have a2:=O P;have d0:=O b1;have e7:=O h5;clear b5 b9 P b1 h5
   have l2:rn<=599:=by
    rw[a0.len];have:=iM (n:=r) (m:=y) (by have:=k2.out;omega);have h2:=a7.len;omega
   refine gP (fun KK o=>?_);go_simp;refine(nl F (ip r) (GN F (x%y)) _ _ _ _ (by exact d7) (iU r) (by omega) (by rw[iY,aI,<- a0.len];omega) (by rw[iY,j9];unfold GN;rfl)).mono ?_;rintro e w5 ⟨s5,H,E,c5,rfl,b2,t,a1⟩;refine o _ _ t ?_;clear o KK;(try simp only[V]);have f:Below wr wr w5:=a2.trans (t.mono a2.size)
   have A:w.heap.size+3<wr.heap.size:=by have:=l.out;omega
   have k5:=(f.cell (p:=J (w+2)) (by show w.heap.size+2<wr.heap.size;omega)).trans q5;have k6:=(f.cell (p:=⟨w.heap.size+2,1,none⟩) (by show w.heap.size+2<wr.heap.size;omega)).trans q6;have k7:=(f.cell (p:=J (w+3)) A).trans q7;have k8:=(f.cell (p:=⟨w.heap.size+3,1,none⟩) A).trans q8;have l5:=(f.frozen (p:=J (w+2)) (by show w.heap.size+2<wr.heap.size;omega)).trans f5;have l6:=(f.frozen (p:=⟨w.heap.size+2,1,none⟩) (by show w.heap.size+2<wr.heap.size;omega)).trans f6;have l7:=(f.frozen (p:=J (w+3)) A).trans f7;have l8:=(f.frozen (p:=⟨w.heap.size+3,1,none⟩) A).trans f8;have d5:=O b2;have e8:=O a1;have a3:=O f;have c8:=O (t);clear b2 a1 t f q1 q2 q3 q4 q5 q6 q7 q8 f5 f6 f7 f8;refine iu rfl ?_;go_wp2_with fail;refine ar (v:=.tuple #[.agg #[s4,Z a4 n4 c4],.agg #[s5,Z H E c5]]) ?_ rfl ?_
   .simp[results,results175,go_sem,k5,k6,k7,k8]
   .have l0:=d0.go (gJ (k:=0) c8)
    have o4:mx 0 wr a4 n4:=mx.ofFresh e7;have o5:mx 0 wr H E:=mx.ofFresh (e8.mono a2.size);have m4:=mI (mI l0 o4 (aA (w+2)) (by omega) (.bool s4) (.slice a4 n4 c4)) o4 (aA (w+3)) (by omega) (.bool s5) (.slice H E c5);have m5:=mI (mI d5 o5 (aA (w+2)) (by omega) (.bool s4) (.slice a4 n4 c4)) o5 (aA (w+3)) (by omega) (.bool s5) (.slice H E c5);have z:=j1.trans (D.mono (by have:=l.out;omega));have l3:=z.trans (a3.mono z.size);refine⟨s4,a4,n4,c4,s5,H,E,c5,rfl,m4,m5,(((l3.setCell ?_ _).setCell ?_ _).setCell ?_ _).setCell ?_ _,e7.mono z.size,e8.mono (af z.size a2.size)⟩
    .show w.heap.size<=w.heap.size+2;omega
    .show w.heap.size<=w.heap.size+2;omega
    .show w.heap.size<=w.heap.size+3;omega
    .show w.heap.size<=w.heap.size+3;omega
  .obtain⟨i,rfl⟩:∃j,i=j+1:=⟨i-1,by omega⟩
   have e0:(((i+1:Nat):Int)-1)=(i:Int):=by omega
   rw[e0];clear e0 h8
   have h9:i<xs.length:=by omega
   obtain⟨ba,oa,rfl,f9,ca⟩:=j3.at (by omega);have z:=j1.trans (D.mono (by have:=l.out;omega));have g1:=(z.cell (p:=⟨ba,oa+i,none⟩) f9).trans (ca i h9);have l4:=b7.all i;generalize hxx:xs.getD i 0=xi at*;have k9:=O hxx;have k4:=O z;clear ca f9 hxx z
   have l2:rn<=599:=by
    have h1:=Hp.2.2.1;rw[a0.len];have:=iM (n:=r) (m:=y) (by omega);have h2:=a7.len;omega
   go_wp2_with(refine ju rfl (.tmp 27) (.tmp 28) 162 rfl underlying162 wr _ 1 [xi] rfl (MX wr _ xi (aa _)) _ ra rn rc (ip r) rfl (a0.alloc _) d6 (by omega) (by simp) ?_)
   intro v' w2 R K;have C:Below wr wr w2:=((TH _ _).alloc (aa _) _).grown K (by simp) (by intro k hk;simp[Value.ownBlock]at hk;omega);obtain⟨va,vc,rfl⟩:=kx R;have i2:=ur (zs:=[xi]++ip r) (by simpa using R);obtain⟨N,hN⟩:∃N:Nat,(N:Int)=xi+1000000000*r:=⟨xi.toNat+1000000000*r,by omega⟩;have M:=Hp.step h9 (by rw[k9];exact hN) b7 hy;obtain⟨M,b8⟩:=M
   have i9:val ([xi]++ip r)=(N:Int):=by rw[oD,iY,hN];simp[val]
   have g8:mv ([xi]++ip r):=(mv.cons l4 mv.nil).append (iU r)
   have f2:(ip N).length<=600:=by
    exact uZ b8 (by rw[<- a7.len];exact hm)
   have g0:=(a7.go k4).go C;have m6:=C.size;have d9:=D.trans (C.mono (by omega));have m0:=(C.cell (p:=J (w+1)) (by show w.heap.size+1<wr.heap.size;have:=l.out;omega)).trans q3;have m1:=(C.cell (p:=⟨w.heap.size+1,1,none⟩) (by show w.heap.size+1<wr.heap.size;have:=l.out;omega)).trans q4
   have b3:w.heap.size+1<w2.heap.size:=by have:=l.out;omega
   have j7:=O i2;have k3:=O M;have e9:=O i9;have j5:=O g8;have j2:=O f2;have j4:=O g0;have e6:=O b8;clear R K i2 M i9 g8 f2 g0 hN b8 q1 q2 q3 q4 q5 q6 q7 q8 f5 f6 f7 f8 g1;go_wp2_with fail;refine wT (B:=w2.heap.size) 13 [(0,true),(1,true),(2,true),(5,true),(6,true),(3,false),(4,true),(7,false),(8,true),(9,true),(10,true),(11,true),(12,true)] (by kernel_rfl) (by kernel_rfl) ?_
   iterate 5
    refine si (v:=?_) rfl (fun _ _ _ h=>h) (by rfl) ?_ ?_;rotate_left
    .intro x T
     have z1:=(T.cell (p:=J (w+1)) b3).trans m0;have z2:=(T.cell (p:=⟨w.heap.size+1,1,none⟩) b3).trans m1;go_simp;rfl
    try simp only[V]
   refine xG rfl rfl (fun KK o=>?_);go_simp;refine(vX false ([xi]++ip r) (N:Int) va (1+rn) vc _ (by exact j7) j5 (by omega) (by rw[e9,aI];exact j2) (by rw[e9];rfl)).mono ?_;rintro e w4 ⟨s5,H,E,c5,rfl,i0,t,a1,i3,g7⟩;refine o _ _ t ?_;clear o KK;try simp only[V]
   have L:Kz w2 w4 H E c5 N:=by
    refine⟨by simpa using i0.2.1,?_,g7⟩
    obtain h|⟨g5,h,hbk⟩:=i3
    .exact VR h
    .by_cases l9:E=0
     .exact VR l9
     .exact VS ⟨g5,h,by simpa using hbk,a1 g5 0 h (by omega)⟩
   have b0:SL w2 w4 b m d (ip y):=j4.below (gJ (k:=1) t) (aa _);have b6:=O L;have c9:=O b0;have f:=gJ (k:=1) t;have a3:=O f;clear i0 a1 i3 g7 L b0 t f;refine si (v:=.slice H E c5) rfl (fun _ _ _ h=>h) (by rfl) (fun x _=>C9 s5 H E c5 x) ?_;(try simp only[V]);refine xG rfl rfl (fun KK o=>?_);go_simp;refine(KA w2 N y H b E m c5 d _ b6 c9 a3.size hy e6 hm).mono ?_;rintro e w5 ⟨a6,n6,c6,rfl,i4,c0⟩;refine o _ _ c0 ?_;clear o KK;(try simp only[V]);have f4:Below w2 w2 w5:=a3.trans c0;have e5:=d9.trans (f4.mono (by omega));have u:vO w5 g W:=s.below (C.trans (f4.mono C.size)) hgl;have g5:=u.free i;have g6:=u.cell (j:=i) (by rw[Hp.1];omega);have a8:=O i4;clear i4 c0;have m3:((N/y:Nat):Int) <1000000000:=gr.2 (eb e6);generalize hQ:((N/y:Nat):Int)=Q at*
   iterate 5
    refine si (v:=?_) rfl (fun _ _ _ h=>h) (by rfl) ?_ ?_;rotate_left
    .intro x T
     go_simp;rfl
    try simp only[V]
   refine Gv rfl ?_;have i7:=Hp.1;have k1:=O i7;have HQ:=O hQ;clear i7 hQ;go_wp2
   go_roundw
   case rel=>
    have hs:=u.set i (by rw[k1];omega) Q;have M:=k3.out;refine⟨i,N%y,a6,n6,c6,_,rfl,by go_num,by omega,hs,M,?_,a8.2.2,?_,e5.setCell (aa _) _⟩
    .exact a8.1.setCell ⟨g,i,none⟩ (.int .i64 Q) (fun b off e h0=>by
      obtain h|⟨gz,h,_,hgz⟩:=a8.2.1
      .omega
      .rw[h]at e;injection e with e;injection e with e1;show b≠g;omega)|>fun h=>by simpa using h
    .obtain h|⟨gz,h,_,hgz⟩:=a8.2.1
     .rw[h];exact kS.zero _ _
     .rw[h];exact kS.mk (by omega) _
   case measure=>simp[intOf]
def jp{P}{c:Code}{Q:Exit->Act->World->Prop}{a w}(F:World->Prop)(b:F w)(h:∀w',F w'->c.wp P Q a w'):c.wp P Q a w:=h w b
abbrev td(w:World)(g:Nat)(s:Bool)(a:Option Addr)(n c:Nat):Prop:=w.heap[g]? =some (.cells #[s,Z a n c] 221 (0,0))
def qB{B W W' g j u}(h:Below B W W')(a:B<=g):Below B W (W'.setCell ⟨g,j,none⟩ u):=h.setCell (p:=⟨g,j,none⟩) a u
def oP{B w w'}(h:Below B w w'):Below B w w'.drew:=⟨h.os,h.tape,h.output,h.size,h.block⟩
def pZ{w g s s' a a' n c n' c'}(h:td w g s a n c):td ((w.setCell (J g) (.bool s')).setCell ⟨g,1,none⟩ (.slice a' n' c')) g s' a' n' c':=
 gG (gG h 0 _) 1 _
def qi{w g k s a n c u v}(b:g≠k)(h:td w g s a n c):td ((w.setCell (J k) u).setCell ⟨k,1,none⟩ v) g s a n c:=
 (TI _ _ _ _ (fun e=>b e)).trans ((TI _ _ _ _ (fun e=>b e)).trans h)
def Da(s p q):(GN s (p%q)).natAbs=p%q:=by unfold GN;cases s<;>simp<;>omega
def vb(s t x y a b n m c d)(w:World)(ha:LG w w s a n c x)(hb:LG w w t b m d y)(hm:m<=599)(A)(hG:Nat.gcd x.natAbs y.natAbs=A):
 Calls prog 231 #[.agg #[s,Z a n c],.agg #[t,Z b m d]] w (tb w (A:Int)):=by
 have g:=oF w (.cells #[s,Z a n c] 221) (.cells #[t,Z b m d] 221) (.cells #[false,oN] 221);obtain⟨i0,i1,i2⟩:=jh w (.cells #[s,Z a n c] 221) (.cells #[t,Z b m d] 221) (.cells #[false,oN] 221);have L:=ha.go g;have i:=hb.go g;have oa:mx w (w+3) a n:=mx.ofLG ha;have ob:mx w (w+3) b m:=mx.ofLG hb;have Ha:=O L;have Hb:=O i;have I0:=O i0;have I1:=O i1;have I2:=O i2;have Oa:=O oa;have Ob:=O ob;have H:=O g;have HG:=O hG;clear hG ha hb L i i0 i1 i2 oa ob g;go_enter func231,ntmps231;go_wp2_with fail
 go_loopg [] y.natAbs (fun k wr=>∃(p q:Int)(s':Bool)(a':Option Addr)(n' c':Nat)(t':Bool)(b':Option Addr)(m' d':Nat),td wr w s' a' n' c'/\td wr (w+1) t' b' m' d'/\td wr (w+2) false none 0 0/\LG wr wr s' a' n' c' p/\LG wr wr t' b' m' d' q/\m'<=599/\mx w (w+3) a' n'/\mx w (w+3) b' m'/\q.natAbs<=k/\Nat.gcd p.natAbs q.natAbs=A/\Below w w wr/\w.heap.size+3<=wr.heap.size)
 case atStart=>exact⟨x,y,s,a,n,c,t,b,m,d,I0,I1,I2,Ha,Hb,hm,Oa,Ob,aa _,HG,H,by simp⟩
 case round=>
  obtain⟨p,q,s',a',n',c',t',b',m',d',h0,h1,h2,hp,hq,a8,o1,o2,b2,hg,N,b5⟩:=hrel;obtain⟨x0,x1,x2,x3⟩:=gQ h0;obtain⟨y0,y1,y2,y3⟩:=gQ h1;obtain⟨z0,z1,z2,z3⟩:=gQ h2;have l:=hq.2.1.len;have K:=O hp;have Hq:=O hq;have Hg:=O hg;have B:=O N;have O1:=O o1;have W:=O o2;have R:=O h0;have S:=O h1;have T:=O h2;clear hp hq hg N o1 o2 h0 h1 h2;by_cases hz:m'=0
  .subst hz
   have r:q.natAbs=0:=jC.1 l.symm;have a7:=O K.2.1.len;have C:=K.2.2;clear l;go_wp2_with fail;refine(nl false (ip p.natAbs) (A:Int) _ _ _ _ (by exact K.2.1) (iU _) (by omega) (by rw[iY,aI,<- a7];exact C) (by rw[iY,<- Hg,r,Nat.gcd_zero_right];rfl)).mono ?_;rintro e w1 ⟨s1,a1,n1,c1,rfl,Q,i,hf⟩;obtain⟨v0,v1,v2,v3⟩:=gQ ((i.block (w+2) (by omega)).trans T);have a5:=O Q;have Hf:=O hf;have a0:=O i;clear Q hf i x0 x1 x2 x3 y0 y1 y2 y3 z0 z1 z2 z3;go_wp2_with fail;refine ar (v:=.agg #[s1,Z a1 n1 c1]) ?_ rfl ?_
   .simp[results,results231,go_sem,v0,v1]
   .exact pF a5 (B.trans (a0.mono B.size)) Hf (w+2) (by omega) (by omega) _ _
  .have r:0<q.natAbs:=by
    obtain h|h:=cM q.natAbs
    .rw[h,jP]at l;simp at l;omega
    .exact h
   have a6:=O l;clear l;go_wp2_with fail;refine(oO s' t' p q p.natAbs q.natAbs rfl rfl a' b' n' m' c' d' _ (by exact K) (by exact Hq) r a8).mono ?_;rintro e z ⟨s2,a2,n2,c2,D,a3,u,c3,rfl,h2,h3,M,f2,f3⟩
   have a9:u<=599:=by
    have X:=h3.2.1.len;rw[Da]at X;have e2:=iM (cE (cx p.natAbs r));have e3:=a6.out;omega
   have H3:=O h3;have E:=O M;have F3:=O f3;clear h2 h3 M f2 f3 x0 x1 x2 x3 y0 y1 y2 y3 z0 z1 z2 z3;go_upto_region 3 with fail;obtain⟨X,e2⟩:=iN z (.cells #[s2,Z a2 n2 c2] 221) (.cells #[D,Z a3 u c3] 221);have j:=iH (w:=z) (.cells #[s2,Z a2 n2 c2] 221) (.cells #[D,Z a3 u c3] 221);refine jp (fun wx=>td wx (z+1) D a3 u c3/\Below z z wx) ⟨e2,j⟩ ?_;clear X e2 j;rintro w3 ⟨j3,j⟩;have b3:=E.size;have f:Below wr wr w3:=E.trans (j.mono E.size);obtain⟨x0,x1,x2,x3⟩:=gQ ((f.block w (by omega)).trans R);obtain⟨y0,y1,y2,y3⟩:=gQ ((f.block (w+1) (by omega)).trans S);have P:=(f.block (w+2) (by omega)).trans T;obtain⟨v0,v1,v2,v3⟩:=gQ j3
   have b0:z.heap.size+1≠w.heap.size:=by omega
   have b1:z.heap.size+1≠w.heap.size+1:=by omega
   have J0:=O ((f.block w (by omega)).trans R);have J1:=O ((f.block (w+1) (by omega)).trans S);have J2:=O P;have a4:=O j;have o:=O f;clear P j f j3 R S T;go_region;go_wp2_with fail
   go_roundg (p.natAbs%q.natAbs)
   case measure=>have:=cx p.natAbs r;omega
   case rel=>
    have l1:=Hq.go o;have l3:=H3.go a4;have F:mx w (w+3) a3 u:=mx.ofFresh (F3.mono (by omega));have k1:=mI (mI l1 W (aa _) (by omega) (.bool t') (.slice b' m' d')) W (show w.heap.size<=w.heap.size+1 by omega) (by omega) (.bool D) (.slice a3 u c3);have k3:=mI (mI l3 F (aa _) (by omega) (.bool t') (.slice b' m' d')) F (show w.heap.size<=w.heap.size+1 by omega) (by omega) (.bool D) (.slice a3 u c3);have b4:=o.size;refine⟨q,GN s' (p.natAbs%q.natAbs),t',b',m',d',D,a3,u,c3,qi (by omega) (pZ J0),pZ (qi (by omega) J1),qi (by omega) (qi (by omega) J2),k1,k3,a9,W,F,?_,?_,?_,?_⟩
    .rw[Da];exact aa _
    .rw[Da,<- Hg,Nat.gcd_comm q.natAbs,<- Nat.gcd_rec,Nat.gcd_comm]
    .exact oP (qB (qB (qB (qB (B.trans (o.mono B.size)) (aa _)) (aa _)) (by omega)) (by omega))
    .simp;omega
def GO(w:World)(r:Rat)(e:Ending)(w':World):Prop:=
 ∃s a n c b m d,e=.returned (.agg #[.bool s,Z a n c,false,Z b m d])/\LG w' w' s a n c r.num/\LG w' w' false b m d ((r.den:Nat):Int)/\Below w w w'/\kS w a n/\kS w b m
def MY{s x g}(a:s=decide (x<0))(b:g ∣ x.natAbs):Bd s false (x.natAbs/g)=x/(g:Int):=by
 have h:=Pv s b;rw[a,QR]at h;rw[<- h,a];unfold Bd Si;cases decide (x<0) <;>rfl
def GP{w w' g s a n c}(h:td w g s a n c)(b:Below w w w'):td w' g s a n c:=(b.block g (TK h)).trans h
def mW{N w s a n c z}(h:LG N w s a n c z):n=(ip z.natAbs).length:=h.2.1.len
abbrev pO(w:World)(g:Nat)(s:Bool)(a:Option Addr)(n c:Nat)(t:Bool)(b:Option Addr)(m d:Nat):Prop:=w.heap[g]? =some (.cells #[s,Z a n c,t,Z b m d] 243 (0,0))
def gL{w g s a n c t b m d}(h:pO w g s a n c t b m d):w.cell? (J g)=some (.bool s)/\w.cell? ⟨g,1,none⟩=some (.slice a n c)/\w.cell? ⟨g,2,none⟩=some (.bool t)/\w.cell? ⟨g,3,none⟩=some (.slice b m d):=
 ⟨gA h 0,gA h 1,gA h 2,gA h 3⟩
def kl{w g s s' a a' n c n' c' t t' b b' m d m' d'}(h:pO w g s a n c t b m d):pO ((((w.setCell (J g) (.bool s')).setCell ⟨g,1,none⟩ (.slice a' n' c')).setCell ⟨g,2,none⟩ (.bool t')).setCell ⟨g,3,none⟩ (.slice b' m' d')) g s' a' n' c' t' b' m' d':=
 gG (gG (gG (gG h 0 _) 1 _) 2 _) 3 _
def qY{w:World}{s a n c N M d z u v u2 v2}(h:LG w w s a n c z)(g:mx N M a n)(h1:N<=d)(h2:d<M):
 LG ((((w.setCell (J d) u).setCell ⟨d,1,none⟩ v).setCell ⟨d,2,none⟩ u2).setCell ⟨d,3,none⟩ v2).heap.size ((((w.setCell (J d) u).setCell ⟨d,1,none⟩ v).setCell ⟨d,2,none⟩ u2).setCell ⟨d,3,none⟩ v2) s a n c z:=by
 have f:∀b off,a=some ⟨b,off,none⟩->0<n->b≠d:=fun b off e h0=>by obtain h|h:=g b off e h0<;>omega
 have:=(((h.setCell (J d) u f).setCell ⟨d,1,none⟩ v f).setCell ⟨d,2,none⟩ u2 f).setCell ⟨d,3,none⟩ v2 f;simpa using this
def iR{B w w' g u v u2 v2}(h:Below B w w')(a:B<=g):Below B w ((((w'.setCell (J g) u).setCell ⟨g,1,none⟩ v).setCell ⟨g,2,none⟩ u2).setCell ⟨g,3,none⟩ v2):=qB (qB (qB (qB h a) a) a) a
def sD(s x)(y:Nat)(a b n m c d)(w:World)(ha:LG w w s a n c x)(hb:LG w w false b m d (y:Int))(hy:0<y)(hm:m<=599):
 Calls prog 258 #[.agg #[s,Z a n c],.agg #[false,Z b m d]] w (GO w (mkRat x y)):=by
 obtain⟨f,hG⟩:∃f,Nat.gcd x.natAbs (y:Int).natAbs=f:=⟨_,rfl⟩
 have t:Nat.gcd x.natAbs y=f:=by rw[<- hG,aB]
 have b0:0<f:=by rw[<- t];exact eM _ hy
 have b2:f ∣ x.natAbs:=by rw[<- t];exact fG _ _
 have b3:f ∣ y:=by rw[<- t];exact Nat.gcd_dvd_right _ _
 have b1:(ip f).length<=599:=af (iM (Nat.le_of_dvd hy b3)) (by have:=mW hb;rw[aB]at this;omega);obtain⟨r1,r2⟩:=zA x (d:=y) (by omega);rw[t]at r1 r2;have b7:=ha.1
 have q1:Bd s false (x.natAbs/f)=(mkRat x y).num:=by rw[MY b7 b2,r1]
 have q2:Bd false false ((y:Int).natAbs/f)=(((mkRat x y).den:Nat):Int):=by rw[r2,aB];rfl
 generalize mkRat x y=R at*;have k:=oF w (.cells #[s,Z a n c] 221) (.cells #[false,Z b m d] 221) (.cells #[false,oN,false,oN] 243);obtain⟨i0,i1,i2⟩:=jh w (.cells #[s,Z a n c] 221) (.cells #[false,Z b m d] 221) (.cells #[false,oN,false,oN] 243);have Ha:=O (ha.go k);have Hb:=O (hb.go k);have I0:=O i0;have I1:=O i1;have I2:=O i2;have p:=O k;have HG:=O hG;have a8:=O b1;have Q1:=O q1;have Q2:=O q2;clear ha hb i0 i1 i2 k hG t b1 q1 q2 r1 r2 b2 b3 b7;go_enter func258,ntmps258;go_wp2_with fail;refine(vb s false x (y:Int) a b n m c d _ (by exact Ha) (by exact Hb) hm f HG).mono ?_;rintro e h ⟨s1,a1,n1,c1,rfl,S,g,_⟩
 have b6:s1=false:=by rw[S.1];simp
 subst b6;obtain⟨x0,x1,_,_⟩:=gQ ((g.block w (by simp<;>omega)).trans I0);obtain⟨y0,y1,_,_⟩:=gQ ((g.block (w+1) (by simp<;>omega)).trans I1)
 have b6:w.heap.size+3<=h.heap.size:=by have:=g.size;simp at this;omega
 have j0:=(g.block w (by simp<;>omega)).trans I0;have j1:=(g.block (w+1) (by simp<;>omega)).trans I1;have l:=(g.block (w+2) (by simp<;>omega)).trans I2;have H:Below w w h:=p.trans (g.mono p.size);have b8:=O (Ha.go g);have b9:=O (Hb.go g);have D:=O S;have J0:=O j0;have J1:=O j1;have J2:=O l;have a4:=O H;clear S g j0 j1 l H Ha Hb I0 I1 I2 p;go_upto_region 4 with fail;clear x0 x1 y0 y1;have i:=(TH h h).alloc (aa _) (.cells #[false,Z a1 n1 c1] 221);refine jp (fun u=>td u h false a1 n1 c1/\Below h h u) ⟨TL h _,i⟩ ?_;clear i;rintro w2 ⟨K,P⟩;have c7:=TK K;obtain⟨x0,x1,_,_⟩:=gQ (GP J0 P);obtain⟨z0,z1,_,_⟩:=gQ K;have K3:=O K;have L:=O P;clear K P;go_wp2_with fail;refine(oO s false x (f:Int) x.natAbs f rfl (aB _) a a1 n n1 c c1 _ (by exact b8.go L) (by exact D.go L) b0 (by have:=mW D;rw[aB]at this;have:=a8.out;omega)).mono ?_;rintro e C ⟨s2,a2,A,c2,s3,a3,n3,c3,rfl,h2,h3,b4,f2,_⟩;rw[Q1]at h2;have H2:=O h2;have M:=O b4;have F2:=O f2;clear h2 h3 b4 f2 x0 x1 z0 z1;go_upto_region 5 with fail;obtain⟨N,e2⟩:=iN C (.cells #[s2,Z a2 A c2] 221) (.cells #[s3,Z a3 n3 c3] 221);have i:=iH (w:=C) (.cells #[s2,Z a2 A c2] 221) (.cells #[s3,Z a3 n3 c3] 221);refine jp (fun u=>td u C s2 a2 A c2/\Below C C u) ⟨N,i⟩ ?_;clear N e2 i;rintro w4 ⟨k4,F⟩;have c8:=M.size;have c9:=TK k4;have q:Below h h w4:=(L.trans (M.mono (by omega))).trans (F.mono (by omega));obtain⟨y0,y1,_,_⟩:=gQ (GP J1 q);obtain⟨z0,z1,_,_⟩:=gQ ((((M.trans (F.mono c8)).block h c7)).trans K3);have K4:=O k4;have c0:=O F;have o:=O q;clear k4 F q K3;go_wp2_with fail;refine(oO false false (y:Int) (f:Int) (y:Int).natAbs f rfl (aB _) b a1 m n1 d c1 _ (by exact b9.go o) (by exact D.go o) b0 (by have:=mW D;rw[aB]at this;have:=a8.out;omega)).mono ?_;rintro e W ⟨s5,z,B,c5,s6,a6,n6,c6,rfl,h5,h6,b5,f5,_⟩;rw[Q2]at h5
 have T:s5=false:=by rw[h5.1];simp
 subst T;have H5:=O h5;have a9:=O b5;have F5:=O f5;clear h5 h6 b5 f5 y0 y1 z0 z1;go_upto_region 6 with fail;obtain⟨N,e2⟩:=iN W (.cells #[false,Z z B c5] 221) (.cells #[s6,Z a6 n6 c6] 221);have i:=iH (w:=W) (.cells #[false,Z z B c5] 221) (.cells #[s6,Z a6 n6 c6] 221);refine jp (fun u=>td u W false z B c5/\Below W W u) ⟨N,i⟩ ?_;clear N e2 i;rintro w6 ⟨k6,Q⟩;have T:=a9.size;have d0:=TK k6;have j:Below w4 w4 w6:=a9.trans (Q.mono T);have E:Below C C w6:=c0.trans (j.mono (by omega));have r:Below h h w6:=o.trans (j.mono (by omega));obtain⟨x0,x1,_,_⟩:=gQ (GP K4 j);obtain⟨z0,z1,_,_⟩:=gQ k6;have l:=(r.block (w+2) (by omega)).trans J2;have J6:=O l;have g0:=gD l 0;have g1:=gD l 1;have g2:=gD l 2;have g3:=gD l 3;obtain⟨v0,v1,v2,v3⟩:=gL l;have a0:=O E;have X:=O r;have c4:=O Q;clear k6 Q j E r l;go_wp2_with fail;have a7:=kl (s':=s2) (a':=a2) (n':=A) (c':=c2) (t':=false) (b':=z) (m':=B) (d':=c5) J6;obtain⟨k0,k1,k2,K⟩:=gL a7;refine ar (v:=.agg #[s2,Z a2 A c2,false,Z z B c5]) ?_ rfl ?_
 .simp[results,results258,go_sem,k0,k1,k2,K]
 .have l2:=H2.go a0
  have l5:=H5.go c4;have o2:mx w (w+3) a2 A:=mx.ofFresh (F2.mono (by omega));have o5:mx w (w+3) z B:=mx.ofFresh (F5.mono (by omega));exact⟨s2,a2,A,c2,z,B,c5,rfl,qY l2 o2 (show w.heap.size<=w.heap.size+2 by omega) (by omega),qY l5 o5 (show w.heap.size<=w.heap.size+2 by omega) (by omega),iR (a4.trans (X.mono (by omega))) (by omega),F2.mono (by omega),F5.mono (by omega)⟩
