import Derived.Test.YtlnbjinneegciabGreatDoorTAA
namespace Go.Proofs.YtlnbjinneegciabGreatDoor
set_option linter.all false
set_option maxRecDepth 100000
set_option maxHeartbeats 1600000
open Go.Proofs.Tryz Go.RowKit
def uZ{N y k:Nat}(h:N<y*1000000000)(a:(ip y).length<=k):(ip N).length<=k+1:=by
 refine iB ?_;have h1:=Wu y;have h3:=dA (n:=1000000000) (by decide) a;rw[bM];exact eb h (Ui _ (by omega))
def Pt(zs:List Int)(a:Option Addr)(n c i:Nat)(b z:Int)(w:World)(d:b=(i:Int))(h:SL w w a n c zs)(f:n<=1000000)(hi:i<=1000000)(g:zs.getD i 0=z):
 Calls prog 218 #[Z a n c,b] w (fun e w'=>e=.returned (.int .i64 z)/\w=w'):=by
 subst d;exact ux zs a n c i z w h f hi g
def BY(X:Int)(h1: -999999998000000001-1000000000<=X)(h2:X<=999999999):
 -1000000000<=X.tdiv 1000000000/\X.tdiv 1000000000<=0/\ -1000000000<X.tmod 1000000000/\X.tmod 1000000000<1000000000/\
  ((0<=X.tmod 1000000000/\X.tdiv 1000000000=X/1000000000/\X.tmod 1000000000=X%1000000000)\/
   (X.tmod 1000000000<0/\X.tdiv 1000000000-1=X/1000000000/\X.tmod 1000000000+1000000000=X%1000000000)):=by
 by_cases h:0<=X
 .rw[bL h,bu h]
  omega
 .rw[xC (by omega),xB (by omega)]
  omega
def Kz(B:Nat)(w:World)(a:Option Addr)(n c:Nat)(r:Nat):Prop:=
 SL w w a n c (ip r)/\(n=0\/ ∃g,a=some ⟨g,0,none⟩/\vO w g (ip r)/\B<=g)/\(a=none->c=0)
def Pu(B:Nat)(w:World)(x y:Nat)(d b:Value)(wr:World):Prop:=
 ∃(r q:Nat)(a:Option Addr)(n c:Nat),d=.slice a n c/\b=.int .i64 (q:Int)/\x=q*y+r/\Kz B wr a n c r/\Below B w wr
def KA(B x y:Nat)(a b:Option Addr)(n m c d:Nat)(w:World)(ha:Kz B w a n c x)(hb:SL B w b m d (ip y))(hB:B<=w.heap.size)(hy:0<y)(e6:x<y*1000000000)(hm:m<=599):
 Calls prog 207 #[Z a n c,Z b m d] w
  (fun e w'=>∃a' n' c',e=.returned (.tuple #[Z a' n' c',.int .i64 ((x/y:Nat):Int)])/\Kz B w' a' n' c' (x%y)/\Below B w w'):=by
 have Ha:=O ha;have Hb:=O hb;have c6:=O e6;clear ha hb e6;go_enter func207,ntmps207;go_wp2
 go_loopw [0,6] (fun rv nv wr=>Pu B w x y rv nv wr) (fun _ nv _=>x-(intOf nv).toNat)
 case atStart=>exact⟨x,0,a,n,c,rfl,rfl,by omega,Ha,TH _ _⟩
 case round=>
  clear Ha;obtain⟨r,q,a,n,c,rfl,rfl,P,ho,R⟩:=hrel;have Hx:=O P;have z:=O ho;have d8:SL wr wr b m d (ip y):=(Hb.below R (ag _)).mono (by have:=R.size;omega);have d6:=O d8
  have hn:n<=600:=by
   rw[ho.1.len];exact uZ (y:=y) (cX (by have:=Hx.out;omega) c6) (by rw[<- Hb.len];exact hm)
  have hq:(q:Int) <1000000000:=by
   have h1:q*y<1000000000*y:=by have:=c6.out;rw[gu 1000000000];omega
   have:=Nat.lt_of_mul_lt_mul_right h1;omega
  clear P ho d8;by_cases c1:r<y
  .have hd:decide (r<y)=true:=by simpa using c1
   go_wp2_with fail;refine(tP r y a b n m c d _ z.1 d6 (by omega)).mono ?_;rintro e w2 ⟨rfl,nk,rfl⟩;rw[hd]
   have d9:q=x/y:=by
    rw[Hx];exact(Nat.div_eq_of_lt_le (by omega) (by rw[dB];omega)).symm
   have e0:r=x%y:=by
    rw[Hx,gu,Nat.mul_add_mod];exact(cV c1).symm
   have e8:=O d9;have e9:=O e0;clear hd c1 d9 e0;go_wp2;go_ret2;rw[<- e8,<- e9];exact⟨a,n,c,rfl,z,gV R _⟩
  .have hd:decide (r<y)=false:=by simpa using c1
   have e5:r<y*1000000000:=by have h1:=c6.out;have h2:=Hx.out;omega
   obtain⟨M,hM⟩:∃M,m=M+1:=⟨m-1,by
    have h1:=Hb.len
    have:(ip y).length≠0:=fun e=>by have:=jC.1 e;omega
    omega⟩
   have g6:(m:Int)-1=(M:Int):=by omega
   have f9:M<m:=by omega
   have HM:=O hM;clear hM
   have g4:M+1<=n:=by
    have hM:=HM.out;have h1:=Hb.len;have h2:=z.1.len;have h3:=iM (n:=y) (m:=r) (by omega);omega
   have g0:M<n:=by omega
   obtain⟨bb,ob,rfl,f2,cb⟩:=Hb.at (by omega);have d5:=z.2.1
   obtain hn0|⟨g,rfl,f,hgB⟩:=d5
   .omega
   have g1:=f.cell (j:=M) (by rw[<- z.1.len];omega);have g2:=(R.cell (p:=⟨bb,ob+M,none⟩) f2).trans (cb M (by omega));have f6:=O cb
   obtain⟨K,hK⟩:∃K:Int,K=if(((ip r).getD (M+1) 0)*1000000000+(ip r).getD M 0)/((ip y).getD M 0+1)=0 then 1 else(((ip r).getD (M+1) 0)*1000000000+(ip r).getD M 0)/((ip y).getD M 0+1):=⟨_,rfl⟩
   obtain⟨f8,c0,d7,h0,h1,h2,h3,D,h5⟩:=Sr (x:=r) (y:=y) (m:=M) hy (by rw[<- Hb.len,HM]) e5 (by omega) rfl rfl rfl hK;generalize hhi:(ip r).getD (M+1) 0=hi at*;generalize htop:(ip r).getD M 0=top at*;generalize hbt:(ip y).getD M 0=bt at*;have e1:(hi*1000000000+top).tdiv (bt+1)=(hi*1000000000+top)/(bt+1):=bL (by omega);have e2:0<=(hi*1000000000+top)/(bt+1):=Int.ediv_nonneg (by omega) (by omega);generalize hk0:(hi*1000000000+top)/(bt+1)=k0 at*
   have e3:¬(bt+1=0):=by omega
   have e4:k0<=K:=by rw[hK];split<;>omega
   have v1:IntKind.i64.wrap ((M:Int)+1)=(M:Int)+1:=TM _ (by omega);have v2:IntKind.i64.wrap (hi*1000000000)=hi*1000000000:=TM _ (by omega);have v3:IntKind.i64.wrap (hi*1000000000+top)=hi*1000000000+top:=TM _ (by omega);have v4:IntKind.i64.wrap (bt+1)=bt+1:=TM _ (by omega);have v5:IntKind.i64.wrap k0=k0:=TM _ (by omega);have f7:=O hk0;have e7:=O hhi;have b9:=O d7;have a0:=O f;clear hk0 htop hbt hhi cb d7 e5;go_wp2_with fail;refine(tP r y _ _ n m c d _ z.1 d6 (by omega)).mono ?_;rintro e w2 ⟨rfl,nk,rfl⟩;rw[hd];clear hd;go_wp2_with fail;refine gS 16 [(0,true),(1,true),(2,true),(5,true),(6,true),(7,true),(8,true),(10,true),(11,true),(12,true),(13,true),(14,true),(3,false),(4,true),(9,true),(15,true)] (by kernel_rfl) (by kernel_rfl) ?_
   iterate 12
    refine gU (v:=?_) ?_ ?_;rotate_left
    .intro x P
     have z1:=(P.cell (p:=⟨g,M,none⟩) a0.lt).trans g1;have z2:=(P.cell (p:=⟨bb,ob+M,none⟩) (by show bb<wr.heap.size;have:=R.size;omega)).trans g2;go_simp;rfl
    try simp only[V]
   refine gP (fun KK N=>?_);go_simp;refine(Pt (ip r) _ n c (M+1) _ hi _ (by omega) (by exact z.1) (by omega) (by omega) e7).mono ?_;rintro e w4 ⟨rfl,rfl⟩;refine N _ _ (TH _ _) ?_;clear N KK;try simp only[V]
   iterate 3
    refine gU (v:=?_) ?_ ?_;rotate_left
    .intro x P
     go_simp;rfl
    try simp only[V]
   refine iu rfl ?_;by_cases F:k0=0
   .have Q:=O (show K=1 by rw[hK,aq F])
    subst F;clear hK e1 g1 g2;go_wp2_with fail;clear v1 v2 v3 v4 v5 e2 e3 e4;obtain⟨wo,rfl⟩:∃wo:World,wo=wr:=⟨_,rfl⟩
    go_loopw [9,10] (fun cv iv wr=>∃(i:Nat)(cr:Int)(l:List Int),cv=.int .i64 cr/\iv=.int .i64 (i:Int)/\i<=n/\vO wr g l/\D1 (ip r) (ip y) K i cr l/\Below B w wr) (fun _ iv _=>n-(intOf iv).toNat)
    case atStart=>exact⟨0,0,ip r,rfl,rfl,aA _,a0.drew _,D1.start (iU r),gV R _⟩
    case round=>
     obtain⟨i,cr,l,rfl,rfl,hi,f,s,k⟩:=hrel;have C:=O (show l.length=n by rw[s.1,<- z.1.len]);by_cases c9:i<n
     .have g1:=f.cell (j:=i) (by have:=C.out;omega)
      rw[s.2.2.1 i (ag _)]at g1;have g3:=f.free i;have f5:=(iU r).all i;have d2:=(iU y).all i;have f3:=s.2.2.2.2.1;have f4:=s.2.2.2.2.2;have b8:=s.step (iU y) (by omega) c0 (by rw[<- z.1.len];exact c9);have a9:=(Hb.below k (ag _)).mono (show B<=wr.heap.size by have:=k.size;omega);have hgl:=f.lt;obtain⟨b1,b2⟩:=C5 d2 ⟨by omega,c0⟩;have c2:=O a9;generalize hxx:(ip r).getD i 0=ri at*;generalize hyy:(ip y).getD i 0=yi at*;generalize hpK:yi*K=p at*;generalize hX:ri-p+cr=X at*
      have x1: -999999998000000001-1000000000<=X:=by omega
      have x2:X<=999999999:=by omega
      have a7:=O b8;have c7:=O hyy;have Hp:=O s;clear b8 hyy hxx s a9
      first
       |(have d1:p=yi:=by
          rw[<- hpK,Q,Int.mul_one]
         subst d1
         clear hpK)
       |skip
      have v6:IntKind.i64.wrap p=p:=TM _ (by omega);have v7:IntKind.i64.wrap (ri-p)=ri-p:=TM _ (by omega);have v8:IntKind.i64.wrap X=X:=TM _ (by omega);go_wp2_with fail;refine gS 12 [(0,true),(1,true),(2,true),(3,true),(4,true),(5,true),(7,true),(10,true),(6,false),(8,true),(9,true),(11,true)] (by kernel_rfl) (by kernel_rfl) ?_
      iterate 8
       refine gU (v:=?_) ?_ ?_;rotate_left
       .intro x P
        have z1:=(P.cell (p:=⟨g,i,none⟩) hgl).trans g1;go_simp;rfl
       try simp only[V]
      refine gP (fun KK N=>?_);go_simp;refine(ux (ip y) _ m d i _ _ (by exact c2) (by omega) (by omega) c7).mono ?_;rintro e w4 ⟨rfl,rfl⟩;refine N _ _ (TH _ _) ?_;clear N KK;try simp only[V]
      iterate 3
       refine gU (v:=?_) ?_ ?_;rotate_left
       .intro x P
        go_simp;rfl
       try simp only[V]
      refine iu rfl ?_;have h3:=BY X x1 x2;generalize hQ0:X.tdiv 1000000000=Q0 at h3;generalize hR0:X.tmod 1000000000=R0 at h3;obtain⟨y1,y2,y3,y4,h3⟩:=h3;clear x1 x2
      obtain ⟨h3,D,h5⟩|⟨h3,D,h5⟩:=h3
      .have f0:¬R0<0:=by omega
       have H4:=O D;have H5:=O h5;clear D h5 h3;go_wp2
       go_roundw
       case rel=>
        refine⟨i+1,Q0,_,rfl,by go_num,by omega,f.set i (by have:=C.out;omega) R0,?_,gV (show Below B w (World.setCell wr ⟨g,i,none⟩ _)from k.setCell hgB _) 1⟩;have:=a7.out;rw[<- H4,<- H5]at this;exact this
       case measure=>simp[intOf];omega
      .have H4:=O D;have H5:=O h5;clear D h5
       go_wp2
       go_roundw
       case rel=>
        refine⟨i+1,Q0-1,_,rfl,by go_num,by omega,f.set i (by have:=C.out;omega) (R0+1000000000),?_,gV (show Below B w (World.setCell wr ⟨g,i,none⟩ _)from k.setCell hgB _) 1⟩;have:=a7.out;rw[<- H4,<- H5]at this;exact this
       case measure=>simp[intOf];omega
     .obtain rfl:i=n:=by omega
      have c8:ms l/\val l=val (ip r)-K*val (ip y):=by
       have d0:=z.1.len;have h:=s;rw[d0]at h;exact h.done (iM (by omega)) (by rw[iY,iY];exact b9)
      obtain⟨E,t⟩:=c8;rw[iY,iY]at t;obtain⟨u,b6⟩:∃u:Nat,(u:Int)=(r:Int)-K*y:=⟨((r:Int)-K*y).toNat,cH (by have:=b9.out;omega)⟩;obtain⟨kn,S⟩:∃kn:Nat,(kn:Int)=K:=⟨K.toNat,cH (by omega)⟩
      have b7:r=kn*y+u:=by
       have h1:(r:Int)=(kn:Int)*y+u:=by rw[S];omega
       rw[<- bW,<- et]at h1;exact ge.1 h1
      have W:val l=(u:Int):=by rw[t,b6]
      have H:(ip (val l).toNat).length<=600:=by
       rw[W,aI];have:=iM (n:=u) (m:=r) (by omega);rw[<- z.1.len]at this;omega
      have T:=f.sl (c:=c) (by have:=C.out;have:=z.1.cap;omega);rw[C]at T;have c3:=O T;have a1:=O E;have a2:=O H;have c4:=O W;have a6:=O b7;have a4:=O S;clear T E H W b7 S t b6 s;have hgl:=f.lt;go_wp2_with fail;refine(vX false l (u:Int) _ _ _ _ c3 a1 (by omega) a2 (by rw[c4];rfl)).mono ?_;rintro e w5 ⟨s5,a5,n5,c5,rfl,b4,a8,b3,b5,b0⟩;have a3:Below B w w5:=k.trans (a8.mono (by have:=k.size;omega))
      have o:Kz B w5 a5 n5 c5 u:=by
       refine⟨by simpa using b4.2.1,?_,b0⟩
       obtain h|⟨g5,h,hbk⟩:=b5
       .exact VR h
       .by_cases d3:n5=0
        .exact VR d3
        .refine VS ⟨g5,h,by simpa using hbk,?_⟩
         have:=b3 g5 0 h (by omega);have:=k.size;omega
      have L:=O o;clear b4 b3 b5 o a8 b0;go_wp2_with fail
      change (?K:Act->World->Prop) (Act.put ?A _ (Value.slice a5 n5 c5)) _
      go_wp2
      go_roundw
      case rel=>
       refine⟨u,q+kn,a5,n5,c5,rfl,?_,?_,L,a3⟩
       .have:=a4.out
        have h2:=Q.out
        first
         |(show Value.int .i64 _=Value.int .i64 _;congr 1;omega)
       .rw[Hx,a6,dB,cN]
      case measure=>
       have h1:=Hx.out;have h2:=a6.out;have h3:=a4.out;have D:=Q.out;have h5:kn*1<=kn*y:=eu _ hy;have h6:q*1<=q*y:=eu _ hy;simp[intOf];omega
   .have f1:K=k0:=by rw[hK,aj F]
    have d4:(k0==0)=false:=by simpa using F
    subst f1;clear hK F e1 g1 g2;have Q:=O (rfl:K=K);go_wp2_with fail;clear v1 v2 v3 v4 v5 e2 e3 e4 d4;obtain⟨wo,rfl⟩:∃wo:World,wo=wr:=⟨_,rfl⟩
    go_loopw [9,10] (fun cv iv wr=>∃(i:Nat)(cr:Int)(l:List Int),cv=.int .i64 cr/\iv=.int .i64 (i:Int)/\i<=n/\vO wr g l/\D1 (ip r) (ip y) K i cr l/\Below B w wr) (fun _ iv _=>n-(intOf iv).toNat)
    case atStart=>exact⟨0,0,ip r,rfl,rfl,aA _,a0.drew _,D1.start (iU r),gV R _⟩
    case round=>
     obtain⟨i,cr,l,rfl,rfl,hi,f,s,k⟩:=hrel;have C:=O (show l.length=n by rw[s.1,<- z.1.len]);by_cases c9:i<n
     .have g1:=f.cell (j:=i) (by have:=C.out;omega)
      rw[s.2.2.1 i (ag _)]at g1;have g3:=f.free i;have f5:=(iU r).all i;have d2:=(iU y).all i;have f3:=s.2.2.2.2.1;have f4:=s.2.2.2.2.2;have b8:=s.step (iU y) (by omega) c0 (by rw[<- z.1.len];exact c9);have a9:=(Hb.below k (ag _)).mono (show B<=wr.heap.size by have:=k.size;omega);have hgl:=f.lt;obtain⟨b1,b2⟩:=C5 d2 ⟨by omega,c0⟩;have c2:=O a9;generalize hxx:(ip r).getD i 0=ri at*;generalize hyy:(ip y).getD i 0=yi at*;generalize hpK:yi*K=p at*;generalize hX:ri-p+cr=X at*
      have x1: -999999998000000001-1000000000<=X:=by omega
      have x2:X<=999999999:=by omega
      have a7:=O b8;have c7:=O hyy;have Hp:=O s;clear b8 hyy hxx s a9
      first
       |(have d1:p=yi:=by
          rw[<- hpK,Q,Int.mul_one]
         subst d1
         clear hpK)
       |skip
      have v6:IntKind.i64.wrap p=p:=TM _ (by omega);have v7:IntKind.i64.wrap (ri-p)=ri-p:=TM _ (by omega);have v8:IntKind.i64.wrap X=X:=TM _ (by omega);go_wp2_with fail;refine gS 12 [(0,true),(1,true),(2,true),(3,true),(4,true),(5,true),(7,true),(10,true),(6,false),(8,true),(9,true),(11,true)] (by kernel_rfl) (by kernel_rfl) ?_
      iterate 8
       refine gU (v:=?_) ?_ ?_;rotate_left
       .intro x P
        have z1:=(P.cell (p:=⟨g,i,none⟩) hgl).trans g1;go_simp;rfl
       try simp only[V]
      refine gP (fun KK N=>?_);go_simp;refine(ux (ip y) _ m d i _ _ (by exact c2) (by omega) (by omega) c7).mono ?_;rintro e w4 ⟨rfl,rfl⟩;refine N _ _ (TH _ _) ?_;clear N KK;try simp only[V]
      iterate 3
       refine gU (v:=?_) ?_ ?_;rotate_left
       .intro x P
        go_simp;rfl
       try simp only[V]
      refine iu rfl ?_;have h3:=BY X x1 x2;generalize hQ0:X.tdiv 1000000000=Q0 at h3;generalize hR0:X.tmod 1000000000=R0 at h3;obtain⟨y1,y2,y3,y4,h3⟩:=h3;clear x1 x2
      obtain ⟨h3,D,h5⟩|⟨h3,D,h5⟩:=h3
      .have f0:¬R0<0:=by omega
       have H4:=O D;have H5:=O h5;clear D h5 h3;go_wp2
       go_roundw
       case rel=>
        refine⟨i+1,Q0,_,rfl,by go_num,by omega,f.set i (by have:=C.out;omega) R0,?_,gV (show Below B w (World.setCell wr ⟨g,i,none⟩ _)from k.setCell hgB _) 1⟩;have:=a7.out;rw[<- H4,<- H5]at this;exact this
       case measure=>simp[intOf];omega
      .have H4:=O D;have H5:=O h5;clear D h5
       go_wp2
       go_roundw
       case rel=>
        refine⟨i+1,Q0-1,_,rfl,by go_num,by omega,f.set i (by have:=C.out;omega) (R0+1000000000),?_,gV (show Below B w (World.setCell wr ⟨g,i,none⟩ _)from k.setCell hgB _) 1⟩;have:=a7.out;rw[<- H4,<- H5]at this;exact this
       case measure=>simp[intOf];omega
     .obtain rfl:i=n:=by omega
      have c8:ms l/\val l=val (ip r)-K*val (ip y):=by
       have d0:=z.1.len;have h:=s;rw[d0]at h;exact h.done (iM (by omega)) (by rw[iY,iY];exact b9)
      obtain⟨E,t⟩:=c8;rw[iY,iY]at t;obtain⟨u,b6⟩:∃u:Nat,(u:Int)=(r:Int)-K*y:=⟨((r:Int)-K*y).toNat,cH (by have:=b9.out;omega)⟩;obtain⟨kn,S⟩:∃kn:Nat,(kn:Int)=K:=⟨K.toNat,cH (by omega)⟩
      have b7:r=kn*y+u:=by
       have h1:(r:Int)=(kn:Int)*y+u:=by rw[S];omega
       rw[<- bW,<- et]at h1;exact ge.1 h1
      have W:val l=(u:Int):=by rw[t,b6]
      have H:(ip (val l).toNat).length<=600:=by
       rw[W,aI];have:=iM (n:=u) (m:=r) (by omega);rw[<- z.1.len]at this;omega
      have T:=f.sl (c:=c) (by have:=C.out;have:=z.1.cap;omega);rw[C]at T;have c3:=O T;have a1:=O E;have a2:=O H;have c4:=O W;have a6:=O b7;have a4:=O S;clear T E H W b7 S t b6 s;have hgl:=f.lt;go_wp2_with fail;refine(vX false l (u:Int) _ _ _ _ c3 a1 (by omega) a2 (by rw[c4];rfl)).mono ?_;rintro e w5 ⟨s5,a5,n5,c5,rfl,b4,a8,b3,b5,b0⟩;have a3:Below B w w5:=k.trans (a8.mono (by have:=k.size;omega))
      have o:Kz B w5 a5 n5 c5 u:=by
       refine⟨by simpa using b4.2.1,?_,b0⟩
       obtain h|⟨g5,h,hbk⟩:=b5
       .exact VR h
       .by_cases d3:n5=0
        .exact VR d3
        .refine VS ⟨g5,h,by simpa using hbk,?_⟩
         have:=b3 g5 0 h (by omega);have:=k.size;omega
      have L:=O o;clear b4 b3 b5 o a8 b0;go_wp2_with fail
      change (?K2:Act->World->Prop) (Act.put ?A2 _ (Value.slice a5 n5 c5)) _
      go_wp2
      go_roundw
      case rel=>
       refine⟨u,q+kn,a5,n5,c5,rfl,?_,?_,L,a3⟩
       .have:=a4.out
        have h2:=Q.out
        first
         |(show Value.int .i64 _=Value.int .i64 _;congr 1;omega)
       .rw[Hx,a6,dB,cN]
      case measure=>
       have h1:=Hx.out;have h2:=a6.out;have h3:=a4.out;have D:=Q.out;have h5:kn*1<=kn*y:=eu _ hy;have h6:q*1<=q*y:=eu _ hy;simp[intOf];omega
def P0(xs:List Int)(y i:Nat)(a:List Int)(r:Nat):Prop:=
 a.length=xs.length/\ms a/\r<y/\val (xs.drop i)=val (a.drop i)*y+r
def P0.start{xs:List Int}{y:Nat}(a:0<y):P0 xs y xs.length (List.replicate xs.length 0) 0:=by
 refine⟨by simp,fun j _=>?_,a,by simp[val]⟩;simp only[ah,eR];split<;>simp
def P0.step{xs b:List Int}{y i r N:Nat}(h:P0 xs y (i+1) b r)(hi:i<xs.length)(k:(N:Int)=xs.getD i 0+1000000000*r)(f:ms xs)(g:0<y):
 P0 xs y i (b.set i ((N/y:Nat):Int)) (N%y)/\N<y*1000000000:=by
 obtain⟨h1,h2,h3,d⟩:=h;have a:=f.all i
 have c:N<y*1000000000:=by omega
 have n:N/y<1000000000:=BF (by omega)
 have m:(N:Int)=((N/y:Nat):Int)*y+((N%y:Nat):Int):=by
  have:=dc N y;rw[gu]at this;have h5:=ai (Nat.cast (R:=Int)) this;rw[et,bW]at h5;exact h5.symm
 have e:=cx N g;generalize N/y=Q at*;generalize N%y=R at*;refine⟨⟨by simpa using h1,fun j _=>?_,e,?_⟩,c⟩
 .rw[rH];split
  .omega
  .exact h2.all j
 .rw[Ea hi,Ea (l:=b.set i _) (by simpa using(by omega:i<b.length)),rH,aq ⟨rfl,by omega⟩,List.drop_set_of_lt (by omega),d]
  generalize val (b.drop (i+1))=v;rw[cJ,bO];generalize(Q:Int)*y=p at*;generalize v*(y:Int)=u at*;omega
def KB(w:World)(o p q r:Obj):((((w.alloc o).alloc p).alloc q).alloc r).heap[w.heap.size]? =some o/\((((w.alloc o).alloc p).alloc q).alloc r).heap[w.heap.size+1]? =some p/\
 ((((w.alloc o).alloc p).alloc q).alloc r).heap[w.heap.size+2]? =some q/\((((w.alloc o).alloc p).alloc q).alloc r).heap[w.heap.size+3]? =some r:=by
 obtain⟨a,b,c⟩:=jh w o p q;refine⟨?_,?_,?_,?_⟩
 .rw[TJ _ _ _ (by simp<;>omega)];exact a
 .rw[TJ _ _ _ (by simp<;>omega)];exact b
 .rw[TJ _ _ _ (by simp)];exact c
 .have:=TL (((w.alloc o).alloc p).alloc q) r
  simpa using this
def GM(w:World)(o p q r:Obj):Below w w ((((w.alloc o).alloc p).alloc q).alloc r):=
 ((((TH _ _).alloc (ag _) _).alloc (by simp) _).alloc (by simp;omega) _).alloc (by simp;omega) _
def MX(w:World)(base:Nat)(x:Int)(hb:base<=w.heap.size):
 (w.alloc (.cells #[x] 3)).ownsRow base 3 1 (.slice (J (w.heap.size)) 1 1) 1 ([x].map (Value.int .i64)):=
 ⟨rfl,.inr ⟨w.heap.size,1,#[x],rfl,hb,TL w _,ag _,by unfold maxLen;omega,rfl,rfl⟩⟩
def C9(s:Bool)(a:Option Addr)(n c:Nat)(x:World):
 ((Sem.run prog (Instr.field 178 (Value.agg #[Value.bool s,Value.slice a n c]) 1) x).andThen fun a w'=>Result.ok (Next.value a) w')=Result.ok (Next.value (Value.slice a n c)) x:=by
 kernel_rfl
def Ss(w:World)(x y:Int)(e:Ending)(w':World):Prop:=
 ∃s a n c s' a' n' c',e=.returned (.tuple #[.agg #[.bool s,Z a n c],.agg #[.bool s',Z a' n' c']])/\LG w' w' s a n c x/\LG w' w' s' a' n' c' y/\Below w w w'/\kS w a n/\kS w a' n'
def YD(x y:Nat)(a b:Option Addr)(n m c d:Nat)(w:World)(ha:LG w w false a n c (x:Int))(hb:LG w w false b m d (y:Int))(hy:0<y)(hm:m<=599):
 Calls prog 170 #[.agg #[false,Z a n c],.agg #[false,Z b m d]] w (Ss w ((x/y:Nat):Int) ((x%y:Nat):Int)):=by
 have hn:=ha.2.2;have Ha:=O ha;have Hb:=O hb;clear ha hb;go_enter func170,ntmps170
 go_wp2_with(refine oE rfl (.tmp 12) (.tmp 12) 109 rfl underlying109 (n:Int) n rfl rfl (by omega) (by omega) ?_)
 intro w1 s f1
 have q:Below ((((w.alloc (.cells #[false,Z a n c] 178)).alloc (.cells #[false,Z b m d] 178)).alloc (.cells #[false,oN] 178)).alloc (.cells #[false,oN] 178)).heap.size
  ((((w.alloc (.cells #[false,Z a n c] 178)).alloc (.cells #[false,Z b m d] 178)).alloc (.cells #[false,oN] 178)).alloc (.cells #[false,oN] 178)) w1:=by simpa using f1
 obtain⟨d1,d2,d3,d4⟩:=KB w (.cells #[false,Z a n c] 178) (.cells #[false,Z b m d] 178) (.cells #[false,oN] 178) (.cells #[false,oN] 178);have e1:=(q.block _ (by simp<;>omega)).trans d1;have e2:=(q.block _ (by simp<;>omega)).trans d2;have e3:=(q.block _ (by simp)).trans d3;have e4:=(q.block _ (by simp)).trans d4;have i9:=(GM w _ _ _ _).trans (q.mono (by simp<;>omega));clear f1 q d1 d2 d3 d4
 have h5:w.heap.size+3<w.heap.size+1+1+1+1:=by omega
 generalize w.heap.size+1+1+1+1=g at*;have a8:=Ha.2.1;have c0:=Hb.2.1;rw[aB]at a8 c0;have g7:=iU x;have i8:=iY x;have k9:=a8.len;generalize ip x=xs at*;obtain rfl:=k9;have b6:=O g7;have e9:=O i8;have j1:=O a8;have a3:=O c0;have l:=O h5;obtain⟨q1,q2,_,_⟩:=gQ e1;have E1:=O e1;have E2:=O e2;have E3:=O e3;have E4:=O e4;clear g7 i8 a8 c0 Ha Hb e1 e2 e3 e4 h5;go_wp2_with fail;clear q1 q2
 go_loopw [7,8] (fun rv iv wr=>∃(i r:Nat)(ra:Option Addr)(W rc:Nat)(T:List Int),rv=.slice ra W rc/\iv=.int .i64 ((i:Int)-1)/\i<=xs.length/\vO wr g T/\P0 xs y i T r/\SL wr wr ra W rc (ip r)/\(ra=none->rc=0)/\kS (g+1) ra W/\Below g w1 wr) (fun _ iv _=>(intOf iv+1).toNat)
 case atStart=>exact⟨xs.length,0,none,0,0,_,rfl,rfl,ag _,s,P0.start hy,by rw[jP];exact SL.nil _ _ _ _,fun _=>rfl,kS.zero _ _,TH _ _⟩
 case round=>
  clear s;obtain⟨i,r,ra,W,rc,T,rfl,rfl,hi,s,hp,i6,b3,g9,D⟩:=hrel;have Hp:=O hp;have X:=O i6;have d5:=O b3;have m0:=O g9;have hgl:=s.lt;have g1:=(D.block w (by have:=l.out;omega)).trans E1;have g2:=(D.block (w+1) (by have:=l.out;omega)).trans E2;have g3:=(D.block (w+2) (by have:=l.out;omega)).trans E3;have g4:=(D.block (w+3) (by have:=l.out;omega)).trans E4;obtain⟨q1,q2,_,_⟩:=gQ g1;obtain⟨q3,q4,_,_⟩:=gQ g2;obtain⟨q5,q6,f5,f6⟩:=gQ g3;obtain⟨q7,q8,f7,f8⟩:=gQ g4;clear g1 g2 g3 g4 hp i6 b3 g9;by_cases h6:i=0
  .subst h6
   have hd:=Hp.out;obtain⟨i4,c2,c3,hv⟩:=hd;rw[dW,dW,e9]at hv
   have hq:val T=((x/y:Nat):Int)/\r=x%y:=by
    obtain⟨Q,hQ⟩:∃Q:Nat,(Q:Int)=val T:=⟨(val T).toNat,cH (jU c2)⟩;rw[<- hQ]at hv⊢
    have S:x=Q*y+r:=by
     rw[<- bW,<- et]at hv;exact ge.1 hv
    refine⟨?_,?_⟩
    .congr 1
     rw[S];exact(Nat.div_eq_of_lt_le (by omega) (by rw[dB];omega)).symm
    .rw[S,gu,Nat.mul_add_mod];exact(cV c3).symm
   obtain⟨c1,i3⟩:=hq
   have h9:(ip (val T).toNat).length<=600:=by
    rw[c1,aI];refine af (iB (k:=xs.length) ?_) hn;have h1:=rZ b6
    have h3:(x:Int) <((1000000000^xs.length:Nat):Int):=by rw[<- e9,dM];exact h1
    have h4:=gr.1 h3;have h2:=dp x y;omega
   have R:=s.sl (c:=xs.length) (by omega);rw[i4]at R;have d7:=O R;have j8:=O c2;have j4:=O h9;have j6:=O c1;have j7:=O i3;have k0:=O c3;clear R c2 h9 c1 i3 i4 hv c3;go_wp2_with fail;refine gS 11 [(0,true),(1,true),(2,true),(3,true),(4,true),(5,true),(7,true),(8,true),(9,true),(6,false),(10,false)] (by kernel_rfl) (by kernel_rfl) ?_
   iterate 9
    refine gU (v:=?_) ?_ ?_;rotate_left
    .intro x S
     have z1:=(S.cell (p:=J (w.heap.size)) (by show w.heap.size<wr.heap.size;have:=l.out;omega)).trans q1;have z3:=(S.cell (p:=J (w+1)) (by show w.heap.size+1<wr.heap.size;have:=l.out;omega)).trans q3;go_simp;with_reducible rfl
    try simp only[V]
   refine gP (fun KK o=>?_);go_simp;refine(nl false T ((x/y:Nat):Int) _ _ _ _ (by exact d7) j8 (by omega) j4 (by rw[j6];rfl)).mono ?_;rintro e w4 ⟨s4,a4,n4,c4,rfl,b0,b8,g8⟩;refine o _ _ b8 ?_;clear o KK;(try simp only[V]);have M:=gJ (k:=1) b8;have b4:SL w4 w4 ra W rc (ip r):=X.go M;have d6:=O b4;have a1:=O M;have c9:=O b0;have e6:=O g8;clear b4 b8 M b0 g8
   have l0:W<=599:=by
    rw[X.len];have:=iM (n:=r) (m:=y) (by have:=k0.out;omega);have h2:=a3.len;omega
   refine gP (fun KK o=>?_);go_simp;refine(nl false (ip r) ((x%y:Nat):Int) _ _ _ _ (by exact d6) (iU r) (by omega) (by rw[iY,aI,<- X.len];omega) (by rw[iY,j7];rfl)).mono ?_;rintro e w5 ⟨s5,F,E,c5,rfl,b1,t,a0⟩;refine o _ _ t ?_;clear o KK;(try simp only[V]);have f:Below wr wr w5:=a1.trans (t.mono a1.size)
   have A:w.heap.size+3<wr.heap.size:=by have:=l.out;omega
   have k5:=(f.cell (p:=J (w+2)) (by show w.heap.size+2<wr.heap.size;omega)).trans q5;have k6:=(f.cell (p:=⟨w.heap.size+2,1,none⟩) (by show w.heap.size+2<wr.heap.size;omega)).trans q6;have k7:=(f.cell (p:=J (w+3)) A).trans q7;have k8:=(f.cell (p:=⟨w.heap.size+3,1,none⟩) A).trans q8;have l5:=(f.frozen (p:=J (w+2)) (by show w.heap.size+2<wr.heap.size;omega)).trans f5;have l6:=(f.frozen (p:=⟨w.heap.size+2,1,none⟩) (by show w.heap.size+2<wr.heap.size;omega)).trans f6;have l7:=(f.frozen (p:=J (w+3)) A).trans f7;have l8:=(f.frozen (p:=⟨w.heap.size+3,1,none⟩) A).trans f8;have d0:=O b1;have e7:=O a0;have a2:=O f;have c7:=O (t);clear b1 a0 t f q1 q2 q3 q4 q5 q6 q7 q8 f5 f6 f7 f8;refine iu rfl ?_;go_wp2_with fail;refine ar (v:=.tuple #[.agg #[s4,Z a4 n4 c4],.agg #[s5,Z F E c5]]) ?_ rfl ?_
   .simp[results,results170,go_sem,k5,k6,k7,k8]
   .have k4:=c9.go (gJ (k:=0) c7)
    have o4:mx 0 wr a4 n4:=mx.ofFresh e6;have o5:mx 0 wr F E:=mx.ofFresh (e7.mono a1.size);have m4:=mI (mI k4 o4 (aA (w+2)) (by omega) (.bool s4) (.slice a4 n4 c4)) o4 (aA (w+3)) (by omega) (.bool s5) (.slice F E c5);have m5:=mI (mI d0 o5 (aA (w+2)) (by omega) (.bool s4) (.slice a4 n4 c4)) o5 (aA (w+3)) (by omega) (.bool s5) (.slice F E c5);have z:=i9.trans (D.mono (by have:=l.out;omega));have l1:=z.trans (a2.mono z.size);refine⟨s4,a4,n4,c4,s5,F,E,c5,rfl,m4,m5,(((l1.setCell ?_ _).setCell ?_ _).setCell ?_ _).setCell ?_ _,e6.mono z.size,e7.mono (af z.size a1.size)⟩
    .show w.heap.size<=w.heap.size+2;omega
    .show w.heap.size<=w.heap.size+2;omega
    .show w.heap.size<=w.heap.size+3;omega
    .show w.heap.size<=w.heap.size+3;omega
  .obtain⟨i,rfl⟩:∃j,i=j+1:=⟨i-1,by omega⟩
   have e0:(((i+1:Nat):Int)-1)=(i:Int):=by omega
   rw[e0];clear e0 h6
   have h7:i<xs.length:=by omega
   obtain⟨ba,oa,rfl,f3,ca⟩:=j1.at (by omega);have z:=i9.trans (D.mono (by have:=l.out;omega));have g1:=(z.cell (p:=⟨ba,oa+i,none⟩) f3).trans (ca i h7);have l2:=b6.all i;generalize hxx:xs.getD i 0=xi at*;have k3:=O hxx;have k2:=O z;clear ca f3 hxx z
   have l0:W<=599:=by
    have h1:=Hp.2.2.1;rw[X.len];have:=iM (n:=r) (m:=y) (by omega);have h2:=a3.len;omega
   go_wp2_with(refine ju rfl (.tmp 27) (.tmp 28) 109 rfl underlying109 wr _ 1 [xi] rfl (MX wr _ xi (ag _)) _ ra W rc (ip r) rfl (X.alloc _) d5 (by omega) (by simp) ?_)
   intro v' w2 P H;have C:Below wr wr w2:=((TH _ _).alloc (ag _) _).grown H (by simp) (by intro k hk;simp[Value.ownBlock]at hk;omega);obtain⟨va,vc,rfl⟩:=kx P;have i0:=ur (zs:=[xi]++ip r) (by simpa using P);obtain⟨N,hN⟩:∃N:Nat,(N:Int)=xi+1000000000*r:=⟨xi.toNat+1000000000*r,by omega⟩;have L:=Hp.step h7 (by rw[k3];exact hN) b6 hy;obtain⟨L,b7⟩:=L
   have i7:val ([xi]++ip r)=(N:Int):=by rw[oD,iY,hN];simp[val]
   have g0:ms ([xi]++ip r):=(ms.cons l2 ms.nil).append (iU r)
   have f0:(ip N).length<=600:=by
    exact uZ b7 (by rw[<- a3.len];exact hm)
   have f4:=(a3.go k2).go C;have m2:=C.size;have d8:=D.trans (C.mono (by omega));have l4:=(C.cell (p:=J (w+1)) (by show w.heap.size+1<wr.heap.size;have:=l.out;omega)).trans q3;have l9:=(C.cell (p:=⟨w.heap.size+1,1,none⟩) (by show w.heap.size+1<wr.heap.size;have:=l.out;omega)).trans q4
   have b2:w.heap.size+1<w2.heap.size:=by have:=l.out;omega
   have j5:=O i0;have k1:=O L;have e8:=O i7;have j3:=O g0;have j0:=O f0;have j2:=O f4;have e5:=O b7;clear P H i0 L i7 g0 f0 f4 hN b7 q1 q2 q3 q4 q5 q6 q7 q8 f5 f6 f7 f8 g1;go_wp2_with fail;refine wT (B:=w2.heap.size) 13 [(0,true),(1,true),(2,true),(5,true),(6,true),(3,false),(4,true),(7,false),(8,true),(9,true),(10,true),(11,true),(12,true)] (by kernel_rfl) (by kernel_rfl) ?_
   iterate 5
    refine gU (v:=?_) ?_ ?_;rotate_left
    .intro x S
     have z1:=(S.cell (p:=J (w+1)) b2).trans l4;have z2:=(S.cell (p:=⟨w.heap.size+1,1,none⟩) b2).trans l9;go_simp;with_reducible rfl
    try simp only[V]
   refine gP (fun KK o=>?_);go_simp;refine(vX false ([xi]++ip r) (N:Int) va (1+W) vc _ (by exact j5) j3 (by omega) (by rw[e8,aI];exact j0) (by rw[e8];rfl)).mono ?_;rintro e w4 ⟨s5,F,E,c5,rfl,h8,t,a0,i1,f9⟩;refine o _ _ t ?_;clear o KK;try simp only[V]
   have K:Kz w2 w4 F E c5 N:=by
    refine⟨by simpa using h8.2.1,?_,f9⟩
    obtain h|⟨g5,h,hbk⟩:=i1
    .exact VR h
    .by_cases l3:E=0
     .exact VR l3
     .exact VS ⟨g5,h,by simpa using hbk,a0 g5 0 h (by omega)⟩
   have a9:SL w2 w4 b m d (ip y):=j2.below (gJ (k:=1) t) (ag _);have b5:=O K;have c8:=O a9;have f:=gJ (k:=1) t;have a2:=O f;clear h8 a0 i1 f9 K a9 t f;refine gU (v:=.slice F E c5) ?_ ?_
   .exact fun x _=>C9 s5 F E c5 x
   (try simp only[V]);refine gP (fun KK o=>?_);go_simp;refine(KA w2 N y F b E m c5 d _ b5 c8 a2.size hy e5 hm).mono ?_;rintro e w5 ⟨a6,n6,c6,rfl,i2,b9⟩;refine o _ _ b9 ?_;clear o KK;(try simp only[V]);have f2:Below w2 w2 w5:=a2.trans b9;have d9:=d8.trans (f2.mono (by omega));have u:vO w5 g T:=s.below (C.trans (f2.mono C.size)) hgl;have g5:=u.free i;have g6:=u.cell (j:=i) (by rw[Hp.1];omega);have a7:=O i2;clear i2 b9;have m1:((N/y:Nat):Int) <1000000000:=gr.2 (BF e5);generalize hQ:((N/y:Nat):Int)=Q at*
   iterate 5
    refine gU (v:=?_) ?_ ?_;rotate_left
    .intro x S
     go_simp;with_reducible rfl
    try simp only[V]
   refine iu rfl ?_;have i5:=Hp.1;have j9:=O i5;have HQ:=O hQ;clear i5 hQ;go_wp2
   go_roundw
   case rel=>
    have hs:=u.set i (by rw[j9];omega) Q;have L:=k1.out;refine⟨i,N%y,a6,n6,c6,_,rfl,by go_num,by omega,hs,L,?_,a7.2.2,?_,d9.setCell (ag _) _⟩
    .exact a7.1.setCell ⟨g,i,none⟩ (.int .i64 Q) (fun b off e h0=>by
      obtain h|⟨gz,h,_,hgz⟩:=a7.2.1
      .omega
      .rw[h]at e;injection e with e;injection e with e1;show b≠g;omega)|>fun h=>by simpa using h
    .obtain h|⟨gz,h,_,hgz⟩:=a7.2.1
     .rw[h];exact kS.zero _ _
     .rw[h];exact kS.mk (by omega) _
   case measure=>simp[intOf]
def Bd(a b:Bool)(q:Nat):Int:=if(!(a==b))then -((q:Nat):Int)else((q:Nat):Int)
def GN(a:Bool)(r:Nat):Int:=if a then -((r:Nat):Int)else((r:Nat):Int)
def oO(F sy:Bool)(X f1:Int)(x y:Nat)(hX:X.natAbs=x)(hY:f1.natAbs=y)(a b:Option Addr)(n m c d:Nat)(w:World)(ha:LG w w F a n c X)(hb:LG w w sy b m d f1)(hy:0<y)(hm:m<=599):
 Calls prog 170 #[.agg #[F,Z a n c],.agg #[sy,Z b m d]] w (Ss w (Bd F sy (x/y)) (GN F (x%y))):=by
 have hn:=ha.2.2;have Ha:=O ha;have Hb:=O hb;clear ha hb;go_enter func170,ntmps170
 go_wp2_with(refine oE rfl (.tmp 12) (.tmp 12) 109 rfl underlying109 (n:Int) n rfl rfl (by omega) (by omega) ?_)
 intro w1 s f3
 have q:Below ((((w.alloc (.cells #[F,Z a n c] 178)).alloc (.cells #[sy,Z b m d] 178)).alloc (.cells #[false,oN] 178)).alloc (.cells #[false,oN] 178)).heap.size
  ((((w.alloc (.cells #[F,Z a n c] 178)).alloc (.cells #[sy,Z b m d] 178)).alloc (.cells #[false,oN] 178)).alloc (.cells #[false,oN] 178)) w1:=by simpa using f3
 obtain⟨d1,d2,d3,d4⟩:=KB w (.cells #[F,Z a n c] 178) (.cells #[sy,Z b m d] 178) (.cells #[false,oN] 178) (.cells #[false,oN] 178);have e1:=(q.block _ (by simp<;>omega)).trans d1;have e2:=(q.block _ (by simp<;>omega)).trans d2;have e3:=(q.block _ (by simp)).trans d3;have e4:=(q.block _ (by simp)).trans d4;have j1:=(GM w _ _ _ _).trans (q.mono (by simp<;>omega));clear f3 q d1 d2 d3 d4
 have h7:w.heap.size+3<w.heap.size+1+1+1+1:=by omega
 generalize w.heap.size+1+1+1+1=g at*;have a9:=Ha.2.1;have c1:=Hb.2.1;rw[hX]at a9;rw[hY]at c1;have g9:=iU x;have j0:=iY x;have l1:=a9.len;generalize ip x=xs at*;obtain rfl:=l1;have b7:=O g9;have f0:=O j0;have j3:=O a9;have a7:=O c1;have l:=O h7;obtain⟨q1,q2,_,_⟩:=gQ e1;have E1:=O e1;have E2:=O e2;have E3:=O e3;have E4:=O e4;clear g9 j0 a9 c1 Ha Hb e1 e2 e3 e4 h7;go_wp2_with fail;clear q1 q2
 go_loopw [7,8] (fun rv iv wr=>∃(i r:Nat)(ra:Option Addr)(rn rc:Nat)(W:List Int),rv=.slice ra rn rc/\iv=.int .i64 ((i:Int)-1)/\i<=xs.length/\vO wr g W/\P0 xs y i W r/\SL wr wr ra rn rc (ip r)/\(ra=none->rc=0)/\kS (g+1) ra rn/\Below g w1 wr) (fun _ iv _=>(intOf iv+1).toNat)
 case atStart=>exact⟨xs.length,0,none,0,0,_,rfl,rfl,ag _,s,P0.start hy,by rw[jP];exact SL.nil _ _ _ _,fun _=>rfl,kS.zero _ _,TH _ _⟩
 case round=>
  clear s;obtain⟨i,r,ra,rn,rc,W,rfl,rfl,hi,s,hp,i8,b4,h6,D⟩:=hrel;have Hp:=O hp;have a0:=O i8;have d6:=O b4;have m2:=O h6;have hgl:=s.lt;have g1:=(D.block w (by have:=l.out;omega)).trans E1;have g2:=(D.block (w+1) (by have:=l.out;omega)).trans E2;have g3:=(D.block (w+2) (by have:=l.out;omega)).trans E3;have g4:=(D.block (w+3) (by have:=l.out;omega)).trans E4;obtain⟨q1,q2,_,_⟩:=gQ g1;obtain⟨q3,q4,_,_⟩:=gQ g2;obtain⟨q5,q6,f5,f6⟩:=gQ g3;obtain⟨q7,q8,f7,f8⟩:=gQ g4;clear g1 g2 g3 g4 hp i8 b4 h6;by_cases h8:i=0
  .subst h8
   have hd:=Hp.out;obtain⟨i6,c3,c7,hv⟩:=hd;rw[dW,dW,f0]at hv
   have hq:val W=((x/y:Nat):Int)/\r=x%y:=by
    obtain⟨Q,hQ⟩:∃Q:Nat,(Q:Int)=val W:=⟨(val W).toNat,cH (jU c3)⟩;rw[<- hQ]at hv⊢
    have T:x=Q*y+r:=by
     rw[<- bW,<- et]at hv;exact ge.1 hv
    refine⟨?_,?_⟩
    .congr 1
     rw[T];exact(Nat.div_eq_of_lt_le (by omega) (by rw[dB];omega)).symm
    .rw[T,gu,Nat.mul_add_mod];exact(cV c7).symm
   obtain⟨c2,i5⟩:=hq
   have i1:(ip (val W).toNat).length<=600:=by
    rw[c2,aI];refine af (iB (k:=xs.length) ?_) hn;have h1:=rZ b7
    have h3:(x:Int) <((1000000000^xs.length:Nat):Int):=by rw[<- f0,dM];exact h1
    have h4:=gr.1 h3;have h2:=dp x y;omega
   have S:=s.sl (c:=xs.length) (by omega);rw[i6]at S;have d8:=O S;have k0:=O c3;have j6:=O i1;have j8:=O c2;have j9:=O i5;have k2:=O c7;clear S c3 i1 c2 i5 i6 hv c7;go_wp2_with fail;refine gS 11 [(0,true),(1,true),(2,true),(3,true),(4,true),(5,true),(7,true),(8,true),(9,true),(6,false),(10,false)] (by kernel_rfl) (by kernel_rfl) ?_
   iterate 9
    refine gU (v:=?_) ?_ ?_;rotate_left
    .intro x T
     have z1:=(T.cell (p:=J (w.heap.size)) (by show w.heap.size<wr.heap.size;have:=l.out;omega)).trans q1;have z3:=(T.cell (p:=J (w+1)) (by show w.heap.size+1<wr.heap.size;have:=l.out;omega)).trans q3;go_simp;rfl
    try simp only[V]
   refine gP (fun KK o=>?_);go_simp;refine(nl (!(F==sy)) W (Bd F sy (x/y)) _ _ _ _ (by exact d8) k0 (by omega) j6 (by rw[j8];unfold Bd;rfl)).mono ?_;rintro e w4 ⟨s4,a4,n4,c4,rfl,b1,b9,h5⟩;refine o _ _ b9 ?_;clear o KK;(try simp only[V]);have P:=gJ (k:=1) b9;have b5:SL w4 w4 ra rn rc (ip r):=a0.go P;have d7:=O b5;have a2:=O P;have d0:=O b1;have e7:=O h5;clear b5 b9 P b1 h5
   have l2:rn<=599:=by
    rw[a0.len];have:=iM (n:=r) (m:=y) (by have:=k2.out;omega);have h2:=a7.len;omega
   refine gP (fun KK o=>?_);go_simp;refine(nl F (ip r) (GN F (x%y)) _ _ _ _ (by exact d7) (iU r) (by omega) (by rw[iY,aI,<- a0.len];omega) (by rw[iY,j9];unfold GN;rfl)).mono ?_;rintro e w5 ⟨s5,H,E,c5,rfl,b2,t,a1⟩;refine o _ _ t ?_;clear o KK;(try simp only[V]);have f:Below wr wr w5:=a2.trans (t.mono a2.size)
   have A:w.heap.size+3<wr.heap.size:=by have:=l.out;omega
   have k5:=(f.cell (p:=J (w+2)) (by show w.heap.size+2<wr.heap.size;omega)).trans q5;have k6:=(f.cell (p:=⟨w.heap.size+2,1,none⟩) (by show w.heap.size+2<wr.heap.size;omega)).trans q6;have k7:=(f.cell (p:=J (w+3)) A).trans q7;have k8:=(f.cell (p:=⟨w.heap.size+3,1,none⟩) A).trans q8;have l5:=(f.frozen (p:=J (w+2)) (by show w.heap.size+2<wr.heap.size;omega)).trans f5;have l6:=(f.frozen (p:=⟨w.heap.size+2,1,none⟩) (by show w.heap.size+2<wr.heap.size;omega)).trans f6;have l7:=(f.frozen (p:=J (w+3)) A).trans f7;have l8:=(f.frozen (p:=⟨w.heap.size+3,1,none⟩) A).trans f8;have d5:=O b2;have e8:=O a1;have a3:=O f;have c8:=O (t);clear b2 a1 t f q1 q2 q3 q4 q5 q6 q7 q8 f5 f6 f7 f8;refine iu rfl ?_;go_wp2_with fail;refine ar (v:=.tuple #[.agg #[s4,Z a4 n4 c4],.agg #[s5,Z H E c5]]) ?_ rfl ?_
   .simp[results,results170,go_sem,k5,k6,k7,k8]
   .have l0:=d0.go (gJ (k:=0) c8)
    have o4:mx 0 wr a4 n4:=mx.ofFresh e7;have o5:mx 0 wr H E:=mx.ofFresh (e8.mono a2.size);have m4:=mI (mI l0 o4 (aA (w+2)) (by omega) (.bool s4) (.slice a4 n4 c4)) o4 (aA (w+3)) (by omega) (.bool s5) (.slice H E c5);have m5:=mI (mI d5 o5 (aA (w+2)) (by omega) (.bool s4) (.slice a4 n4 c4)) o5 (aA (w+3)) (by omega) (.bool s5) (.slice H E c5);have z:=j1.trans (D.mono (by have:=l.out;omega));have l3:=z.trans (a3.mono z.size);refine⟨s4,a4,n4,c4,s5,H,E,c5,rfl,m4,m5,(((l3.setCell ?_ _).setCell ?_ _).setCell ?_ _).setCell ?_ _,e7.mono z.size,e8.mono (af z.size a2.size)⟩
    .show w.heap.size<=w.heap.size+2;omega
    .show w.heap.size<=w.heap.size+2;omega
    .show w.heap.size<=w.heap.size+3;omega
    .show w.heap.size<=w.heap.size+3;omega
  .obtain⟨i,rfl⟩:∃j,i=j+1:=⟨i-1,by omega⟩
   have e0:(((i+1:Nat):Int)-1)=(i:Int):=by omega
   rw[e0];clear e0 h8
   have h9:i<xs.length:=by omega
   obtain⟨ba,oa,rfl,f9,ca⟩:=j3.at (by omega);have z:=j1.trans (D.mono (by have:=l.out;omega));have g1:=(z.cell (p:=⟨ba,oa+i,none⟩) f9).trans (ca i h9);have l4:=b7.all i;generalize hxx:xs.getD i 0=xi at*;have k9:=O hxx;have k4:=O z;clear ca f9 hxx z
   have l2:rn<=599:=by
    have h1:=Hp.2.2.1;rw[a0.len];have:=iM (n:=r) (m:=y) (by omega);have h2:=a7.len;omega
   go_wp2_with(refine ju rfl (.tmp 27) (.tmp 28) 109 rfl underlying109 wr _ 1 [xi] rfl (MX wr _ xi (ag _)) _ ra rn rc (ip r) rfl (a0.alloc _) d6 (by omega) (by simp) ?_)
   intro v' w2 R K;have C:Below wr wr w2:=((TH _ _).alloc (ag _) _).grown K (by simp) (by intro k hk;simp[Value.ownBlock]at hk;omega);obtain⟨va,vc,rfl⟩:=kx R;have i2:=ur (zs:=[xi]++ip r) (by simpa using R);obtain⟨N,hN⟩:∃N:Nat,(N:Int)=xi+1000000000*r:=⟨xi.toNat+1000000000*r,by omega⟩;have M:=Hp.step h9 (by rw[k9];exact hN) b7 hy;obtain⟨M,b8⟩:=M
   have i9:val ([xi]++ip r)=(N:Int):=by rw[oD,iY,hN];simp[val]
   have g8:ms ([xi]++ip r):=(ms.cons l4 ms.nil).append (iU r)
   have f2:(ip N).length<=600:=by
    exact uZ b8 (by rw[<- a7.len];exact hm)
   have g0:=(a7.go k4).go C;have m6:=C.size;have d9:=D.trans (C.mono (by omega));have m0:=(C.cell (p:=J (w+1)) (by show w.heap.size+1<wr.heap.size;have:=l.out;omega)).trans q3;have m1:=(C.cell (p:=⟨w.heap.size+1,1,none⟩) (by show w.heap.size+1<wr.heap.size;have:=l.out;omega)).trans q4
   have b3:w.heap.size+1<w2.heap.size:=by have:=l.out;omega
   have j7:=O i2;have k3:=O M;have e9:=O i9;have j5:=O g8;have j2:=O f2;have j4:=O g0;have e6:=O b8;clear R K i2 M i9 g8 f2 g0 hN b8 q1 q2 q3 q4 q5 q6 q7 q8 f5 f6 f7 f8 g1;go_wp2_with fail;refine wT (B:=w2.heap.size) 13 [(0,true),(1,true),(2,true),(5,true),(6,true),(3,false),(4,true),(7,false),(8,true),(9,true),(10,true),(11,true),(12,true)] (by kernel_rfl) (by kernel_rfl) ?_
   iterate 5
    refine gU (v:=?_) ?_ ?_;rotate_left
    .intro x T
     have z1:=(T.cell (p:=J (w+1)) b3).trans m0;have z2:=(T.cell (p:=⟨w.heap.size+1,1,none⟩) b3).trans m1;go_simp;rfl
    try simp only[V]
   refine gP (fun KK o=>?_);go_simp;refine(vX false ([xi]++ip r) (N:Int) va (1+rn) vc _ (by exact j7) j5 (by omega) (by rw[e9,aI];exact j2) (by rw[e9];rfl)).mono ?_;rintro e w4 ⟨s5,H,E,c5,rfl,i0,t,a1,i3,g7⟩;refine o _ _ t ?_;clear o KK;try simp only[V]
   have L:Kz w2 w4 H E c5 N:=by
    refine⟨by simpa using i0.2.1,?_,g7⟩
    obtain h|⟨g5,h,hbk⟩:=i3
    .exact VR h
    .by_cases l9:E=0
     .exact VR l9
     .exact VS ⟨g5,h,by simpa using hbk,a1 g5 0 h (by omega)⟩
   have b0:SL w2 w4 b m d (ip y):=j4.below (gJ (k:=1) t) (ag _);have b6:=O L;have c9:=O b0;have f:=gJ (k:=1) t;have a3:=O f;clear i0 a1 i3 g7 L b0 t f;refine gU (v:=.slice H E c5) ?_ ?_
   .exact fun x _=>C9 s5 H E c5 x
   (try simp only[V]);refine gP (fun KK o=>?_);go_simp;refine(KA w2 N y H b E m c5 d _ b6 c9 a3.size hy e6 hm).mono ?_;rintro e w5 ⟨a6,n6,c6,rfl,i4,c0⟩;refine o _ _ c0 ?_;clear o KK;(try simp only[V]);have f4:Below w2 w2 w5:=a3.trans c0;have e5:=d9.trans (f4.mono (by omega));have u:vO w5 g W:=s.below (C.trans (f4.mono C.size)) hgl;have g5:=u.free i;have g6:=u.cell (j:=i) (by rw[Hp.1];omega);have a8:=O i4;clear i4 c0;have m3:((N/y:Nat):Int) <1000000000:=gr.2 (BF e6);generalize hQ:((N/y:Nat):Int)=Q at*
   iterate 5
    refine gU (v:=?_) ?_ ?_;rotate_left
    .intro x T
     go_simp;rfl
    try simp only[V]
   refine iu rfl ?_;have i7:=Hp.1;have k1:=O i7;have HQ:=O hQ;clear i7 hQ;go_wp2
   go_roundw
   case rel=>
    have hs:=u.set i (by rw[k1];omega) Q;have M:=k3.out;refine⟨i,N%y,a6,n6,c6,_,rfl,by go_num,by omega,hs,M,?_,a8.2.2,?_,e5.setCell (ag _) _⟩
    .exact a8.1.setCell ⟨g,i,none⟩ (.int .i64 Q) (fun b off e h0=>by
      obtain h|⟨gz,h,_,hgz⟩:=a8.2.1
      .omega
      .rw[h]at e;injection e with e;injection e with e1;show b≠g;omega)|>fun h=>by simpa using h
    .obtain h|⟨gz,h,_,hgz⟩:=a8.2.1
     .rw[h];exact kS.zero _ _
     .rw[h];exact kS.mk (by omega) _
   case measure=>simp[intOf]
def jp{P:Program}{c:Code}{Q:Exit->Act->World->Prop}{a:Act}{w:World}(F:World->Prop)(b:F w)(h:∀w',F w'->c.wp P Q a w'):c.wp P Q a w:=h w b
abbrev td(w:World)(g:Nat)(s:Bool)(a:Option Addr)(n c:Nat):Prop:=w.heap[g]? =some (.cells #[s,Z a n c] 178 (0,0))
def qB{B:Nat}{W W':World}{g j:Nat}{u:Value}(h:Below B W W')(a:B<=g):Below B W (W'.setCell ⟨g,j,none⟩ u):=h.setCell (p:=⟨g,j,none⟩) a u
def oP{B:Nat}{w w':World}(h:Below B w w'):Below B w w'.drew:=⟨h.os,h.tape,h.output,h.size,h.block⟩
def pZ{w:World}{g:Nat}{s s':Bool}{a a':Option Addr}{n c n' c':Nat}(h:td w g s a n c):td ((w.setCell (J g) (.bool s')).setCell ⟨g,1,none⟩ (.slice a' n' c')) g s' a' n' c':=
 gG (gG h 0 _) 1 _
def qi{w:World}{g k:Nat}{s:Bool}{a:Option Addr}{n c:Nat}{u v:Value}(b:g≠k)(h:td w g s a n c):td ((w.setCell (J k) u).setCell ⟨k,1,none⟩ v) g s a n c:=
 (TI _ _ _ _ (fun e=>b e)).trans ((TI _ _ _ _ (fun e=>b e)).trans h)
def Da(s:Bool)(p q:Nat):(GN s (p%q)).natAbs=p%q:=by unfold GN;cases s<;>simp<;>omega
def vb(s t:Bool)(x y:Int)(a b:Option Addr)(n m c d:Nat)(w:World)(ha:LG w w s a n c x)(hb:LG w w t b m d y)(hm:m<=599)(z:Nat)(hG:Nat.gcd x.natAbs y.natAbs=z):
 Calls prog 182 #[.agg #[s,Z a n c],.agg #[t,Z b m d]] w (tb w (z:Int)):=by
 have g:=oF w (.cells #[s,Z a n c] 178) (.cells #[t,Z b m d] 178) (.cells #[false,oN] 178);obtain⟨i0,i1,i2⟩:=jh w (.cells #[s,Z a n c] 178) (.cells #[t,Z b m d] 178) (.cells #[false,oN] 178);have Ha:=O (ha.go g);have Hb:=O (hb.go g);have Oa:=O (show mx w (w+3) a n from mx.ofLG ha);have Ob:=O (show mx w (w+3) b m from mx.ofLG hb);have I0:=O i0;have I1:=O i1;have I2:=O i2;have H:=O g;have HG:=O hG;clear hG ha hb i0 i1 i2 g;go_enter func182,ntmps182;go_wp2
 go_loopg [] y.natAbs (fun k wr=>∃(p q:Int)(s':Bool)(a':Option Addr)(n' c':Nat)(t':Bool)(b':Option Addr)(m' d':Nat),td wr w s' a' n' c'/\td wr (w+1) t' b' m' d'/\td wr (w+2) false none 0 0/\LG wr wr s' a' n' c' p/\LG wr wr t' b' m' d' q/\m'<=599/\mx w (w+3) a' n'/\mx w (w+3) b' m'/\q.natAbs<=k/\Nat.gcd p.natAbs q.natAbs=z/\Below w w wr/\w.heap.size+3<=wr.heap.size)
 case atStart=>exact⟨x,y,s,a,n,c,t,b,m,d,I0,I1,I2,Ha,Hb,hm,Oa,Ob,ag _,HG,H,by simp⟩
 case round=>
  obtain⟨p,q,s',a',n',c',t',b',m',d',h0,h1,h2,hp,hq,a8,o1,o2,b2,hg,M,b5⟩:=hrel;obtain⟨x0,x1,x2,x3⟩:=gQ h0;obtain⟨y0,y1,y2,y3⟩:=gQ h1;obtain⟨z0,z1,z2,z3⟩:=gQ h2;have j:=hq.2.1.len;have K:=O hp;have Hq:=O hq;have Hg:=O hg;have A:=O M;have O1:=O o1;have T:=O o2;have Q:=O h0;have R:=O h1;have S:=O h2;clear hp hq hg M o1 o2 h0 h1 h2;by_cases hz:m'=0
  .subst hz
   have o:q.natAbs=0:=jC.1 j.symm;have a7:=O K.2.1.len;have B:=K.2.2;clear j;go_wp2_with fail;refine(nl false (ip p.natAbs) (z:Int) _ _ _ _ (by exact K.2.1) (iU _) (by omega) (by rw[iY,aI,<- a7];exact B) (by rw[iY,<- Hg,o,Nat.gcd_zero_right];rfl)).mono ?_;rintro e w1 ⟨s1,a1,n1,c1,rfl,P,E,hf⟩;obtain⟨v0,v1,v2,v3⟩:=gQ ((E.block (w+2) (by omega)).trans S);have a5:=O P;have Hf:=O hf;have a0:=O E;clear P hf E x0 x1 x2 x3 y0 y1 y2 y3 z0 z1 z2 z3;go_wp2_with fail;refine ar (v:=.agg #[s1,Z a1 n1 c1]) ?_ rfl ?_
   .simp[results,results182,go_sem,v0,v1]
   .exact pF a5 (A.trans (a0.mono A.size)) Hf (w+2) (by omega) (by omega) _ _
  .have o:0<q.natAbs:=by
    obtain h|h:=cM q.natAbs
    .rw[h,jP]at j;simp at j;omega
    .exact h
   have a6:=O j;clear j;go_wp2_with fail;refine(oO s' t' p q p.natAbs q.natAbs rfl rfl a' b' n' m' c' d' _ (by exact K) (by exact Hq) o a8).mono ?_;rintro e u ⟨s2,a2,n2,c2,C,a3,r,c3,rfl,h2,h3,L,f2,f3⟩
   have a9:r<=599:=by
    have W:=h3.2.1.len;rw[Da]at W;have X:=iM (cE (cx p.natAbs o));have e3:=a6.out;omega
   have H3:=O h3;have D:=O L;have F3:=O f3;clear h2 h3 L f2 f3 x0 x1 x2 x3 y0 y1 y2 y3 z0 z1 z2 z3;go_upto_region 3 with fail;obtain⟨W,X⟩:=iN u (.cells #[s2,Z a2 n2 c2] 178) (.cells #[C,Z a3 r c3] 178);have i:=iH (w:=u) (.cells #[s2,Z a2 n2 c2] 178) (.cells #[C,Z a3 r c3] 178);refine jp (fun wx=>td wx (u+1) C a3 r c3/\Below u u wx) ⟨X,i⟩ ?_;clear W X i;rintro w3 ⟨j3,i⟩;have b3:=D.size;have f:Below wr wr w3:=D.trans (i.mono D.size);obtain⟨x0,x1,x2,x3⟩:=gQ ((f.block w (by omega)).trans Q);obtain⟨y0,y1,y2,y3⟩:=gQ ((f.block (w+1) (by omega)).trans R);have N:=(f.block (w+2) (by omega)).trans S;obtain⟨v0,v1,v2,v3⟩:=gQ j3
   have b0:u.heap.size+1≠w.heap.size:=by omega
   have b1:u.heap.size+1≠w.heap.size+1:=by omega
   have J0:=O ((f.block w (by omega)).trans Q);have J1:=O ((f.block (w+1) (by omega)).trans R);have J2:=O N;have a4:=O i;have l:=O f;clear N i f j3 Q R S;go_region;go_wp2
   go_roundg (p.natAbs%q.natAbs)
   case measure=>have:=cx p.natAbs o;omega
   case rel=>
    have l1:=Hq.go l;have l3:=H3.go a4;have F:mx w (w+3) a3 r:=mx.ofFresh (F3.mono (by omega));have k1:=mI (mI l1 T (ag _) (by omega) (.bool t') (.slice b' m' d')) T (show w.heap.size<=w.heap.size+1 by omega) (by omega) (.bool C) (.slice a3 r c3);have k3:=mI (mI l3 F (ag _) (by omega) (.bool t') (.slice b' m' d')) F (show w.heap.size<=w.heap.size+1 by omega) (by omega) (.bool C) (.slice a3 r c3);have b4:=l.size;refine⟨q,GN s' (p.natAbs%q.natAbs),t',b',m',d',C,a3,r,c3,qi (by omega) (pZ J0),pZ (qi (by omega) J1),qi (by omega) (qi (by omega) J2),k1,k3,a9,T,F,?_,?_,?_,?_⟩
    .rw[Da];exact ag _
    .rw[Da,<- Hg,Nat.gcd_comm q.natAbs,<- Nat.gcd_rec,Nat.gcd_comm]
    .exact oP (qB (qB (qB (qB (A.trans (l.mono A.size)) (ag _)) (ag _)) (by omega)) (by omega))
    .simp;omega
def GO(w:World)(r:Rat)(e:Ending)(w':World):Prop:=
 ∃s a n c b m d,e=.returned (.agg #[.bool s,Z a n c,false,Z b m d])/\LG w' w' s a n c r.num/\LG w' w' false b m d ((r.den:Nat):Int)/\Below w w w'/\kS w a n/\kS w b m
def MY{s:Bool}{x:Int}{g:Nat}(a:s=decide (x<0))(b:g ∣ x.natAbs):Bd s false (x.natAbs/g)=x/(g:Int):=by
 have h:=XV s b;rw[a,QR]at h;rw[<- h,a];unfold Bd Si;cases decide (x<0) <;>rfl
def GP{w w':World}{g:Nat}{s:Bool}{a:Option Addr}{n c:Nat}(h:td w g s a n c)(hb:Below w w w'):td w' g s a n c:=(hb.block g (TK h)).trans h
def mW{N:Nat}{w:World}{s:Bool}{a:Option Addr}{n c:Nat}{z:Int}(h:LG N w s a n c z):n=(ip z.natAbs).length:=h.2.1.len
abbrev pO(w:World)(g:Nat)(s:Bool)(a:Option Addr)(n c:Nat)(t:Bool)(b:Option Addr)(m d:Nat):Prop:=w.heap[g]? =some (.cells #[s,Z a n c,t,Z b m d] 180 (0,0))
def gL{w:World}{g:Nat}{s:Bool}{a:Option Addr}{n c:Nat}{t:Bool}{b:Option Addr}{m d:Nat}(h:pO w g s a n c t b m d):w.cell? (J g)=some (.bool s)/\w.cell? ⟨g,1,none⟩=some (.slice a n c)/\w.cell? ⟨g,2,none⟩=some (.bool t)/\w.cell? ⟨g,3,none⟩=some (.slice b m d):=
 ⟨VV h 0,VV h 1,VV h 2,VV h 3⟩
def kl{w:World}{g:Nat}{s s':Bool}{a a':Option Addr}{n c n' c':Nat}{t t':Bool}{b b':Option Addr}{m d m' d':Nat}(h:pO w g s a n c t b m d):pO ((((w.setCell (J g) (.bool s')).setCell ⟨g,1,none⟩ (.slice a' n' c')).setCell ⟨g,2,none⟩ (.bool t')).setCell ⟨g,3,none⟩ (.slice b' m' d')) g s' a' n' c' t' b' m' d':=
 gG (gG (gG (gG h 0 _) 1 _) 2 _) 3 _
def qY{w:World}{s:Bool}{a:Option Addr}{n c N M d:Nat}{z:Int}{u v u2 v2:Value}(h:LG w w s a n c z)(g:mx N M a n)(h1:N<=d)(h2:d<M):
 LG ((((w.setCell (J d) u).setCell ⟨d,1,none⟩ v).setCell ⟨d,2,none⟩ u2).setCell ⟨d,3,none⟩ v2).heap.size ((((w.setCell (J d) u).setCell ⟨d,1,none⟩ v).setCell ⟨d,2,none⟩ u2).setCell ⟨d,3,none⟩ v2) s a n c z:=by
 have f:∀b off,a=some ⟨b,off,none⟩->0<n->b≠d:=fun b off e h0=>by obtain h|h:=g b off e h0<;>omega
 have:=(((h.setCell (J d) u f).setCell ⟨d,1,none⟩ v f).setCell ⟨d,2,none⟩ u2 f).setCell ⟨d,3,none⟩ v2 f;simpa using this
def iR{B:Nat}{w w':World}{g:Nat}{u v u2 v2:Value}(h:Below B w w')(a:B<=g):Below B w ((((w'.setCell (J g) u).setCell ⟨g,1,none⟩ v).setCell ⟨g,2,none⟩ u2).setCell ⟨g,3,none⟩ v2):=qB (qB (qB (qB h a) a) a) a
def sD(s:Bool)(x:Int)(y:Nat)(a b:Option Addr)(n m c d:Nat)(w:World)(ha:LG w w s a n c x)(hb:LG w w false b m d (y:Int))(hy:0<y)(hm:m<=599):
 Calls prog 219 #[.agg #[s,Z a n c],.agg #[false,Z b m d]] w (GO w (mkRat x y)):=by
 obtain⟨f,hG⟩:∃f,Nat.gcd x.natAbs (y:Int).natAbs=f:=⟨_,rfl⟩
 have t:Nat.gcd x.natAbs y=f:=by rw[<- hG,aB]
 have a9:0<f:=by rw[<- t];exact eM _ hy
 have b1:f ∣ x.natAbs:=by rw[<- t];exact fG _ _
 have b2:f ∣ y:=by rw[<- t];exact Nat.gcd_dvd_right _ _
 have b0:(ip f).length<=599:=af (iM (Nat.le_of_dvd hy b2)) (by have:=mW hb;rw[aB]at this;omega);obtain⟨r1,r2⟩:=zA x (d:=y) (by omega);rw[t]at r1 r2;have b6:=ha.1;have Q1:=O (show Bd s false (x.natAbs/f)=(mkRat x y).num by rw[MY b6 b1,r1])
 have q2:Bd false false ((y:Int).natAbs/f)=(((mkRat x y).den:Nat):Int):=by rw[r2,aB];rfl
 generalize mkRat x y=R at*;have k:=oF w (.cells #[s,Z a n c] 178) (.cells #[false,Z b m d] 178) (.cells #[false,oN,false,oN] 180);obtain⟨i0,i1,i2⟩:=jh w (.cells #[s,Z a n c] 178) (.cells #[false,Z b m d] 178) (.cells #[false,oN,false,oN] 180);have Ha:=O (ha.go k);have Hb:=O (hb.go k);have I0:=O i0;have I1:=O i1;have I2:=O i2;have p:=O k;have HG:=O hG;have a7:=O b0;have Q2:=O q2;clear ha hb i0 i1 i2 k hG t b0 q2 r1 r2 b1 b2 b6;go_enter func219,ntmps219;go_wp2_with fail;refine(vb s false x (y:Int) a b n m c d _ (by exact Ha) (by exact Hb) hm f HG).mono ?_;rintro e h ⟨s1,a1,n1,c1,rfl,Q,g,_⟩
 have b5:s1=false:=by rw[Q.1];simp
 subst b5;obtain⟨x0,x1,_,_⟩:=gQ ((g.block w (by simp<;>omega)).trans I0);obtain⟨y0,y1,_,_⟩:=gQ ((g.block (w+1) (by simp<;>omega)).trans I1)
 have b5:w.heap.size+3<=h.heap.size:=by have:=g.size;simp at this;omega
 have j0:=(g.block w (by simp<;>omega)).trans I0;have j1:=(g.block (w+1) (by simp<;>omega)).trans I1;have l:=(g.block (w+2) (by simp<;>omega)).trans I2;have a0:=O (show Below w w h from p.trans (g.mono p.size));have b7:=O (Ha.go g);have b8:=O (Hb.go g);have D:=O Q;have J0:=O j0;have J1:=O j1;have J2:=O l;clear Q g j0 j1 l Ha Hb I0 I1 I2 p;go_upto_region 4 with fail;clear x0 x1 y0 y1;have i:=(TH h h).alloc (ag _) (.cells #[false,Z a1 n1 c1] 178);refine jp (fun u=>td u h false a1 n1 c1/\Below h h u) ⟨TL h _,i⟩ ?_;clear i;rintro w2 ⟨H,N⟩;have c4:=TK H;obtain⟨x0,x1,_,_⟩:=gQ (GP J0 N);obtain⟨z0,z1,_,_⟩:=gQ H;have K3:=O H;have K:=O N;clear H N;go_wp2_with fail;refine(oO s false x (f:Int) x.natAbs f rfl (aB _) a a1 n n1 c c1 _ (by exact b7.go K) (by exact D.go K) a9 (by have:=mW D;rw[aB]at this;have:=a7.out;omega)).mono ?_;rintro e C ⟨s2,a2,A,c2,s3,a3,n3,c3,rfl,h2,h3,b3,f2,_⟩;rw[Q1]at h2;have H2:=O h2;have L:=O b3;have F2:=O f2;clear h2 h3 b3 f2 x0 x1 z0 z1;go_upto_region 5 with fail;obtain⟨M,e2⟩:=iN C (.cells #[s2,Z a2 A c2] 178) (.cells #[s3,Z a3 n3 c3] 178);have i:=iH (w:=C) (.cells #[s2,Z a2 A c2] 178) (.cells #[s3,Z a3 n3 c3] 178);refine jp (fun u=>td u C s2 a2 A c2/\Below C C u) ⟨M,i⟩ ?_;clear M e2 i;rintro w4 ⟨k4,F⟩;have c7:=L.size;have c8:=TK k4;have q:Below h h w4:=(K.trans (L.mono (by omega))).trans (F.mono (by omega));obtain⟨y0,y1,_,_⟩:=gQ (GP J1 q);obtain⟨z0,z1,_,_⟩:=gQ ((((L.trans (F.mono c7)).block h c4)).trans K3);have K4:=O k4;have b9:=O F;have o:=O q;clear k4 F q K3;go_wp2_with fail;refine(oO false false (y:Int) (f:Int) (y:Int).natAbs f rfl (aB _) b a1 m n1 d c1 _ (by exact b8.go o) (by exact D.go o) a9 (by have:=mW D;rw[aB]at this;have:=a7.out;omega)).mono ?_;rintro e T ⟨s5,z,B,c5,s6,a6,n6,c6,rfl,h5,h6,b4,f5,_⟩;rw[Q2]at h5
 have S:s5=false:=by rw[h5.1];simp
 subst S;have H5:=O h5;have a8:=O b4;have F5:=O f5;clear h5 h6 b4 f5 y0 y1 z0 z1;go_upto_region 6 with fail;obtain⟨M,e2⟩:=iN T (.cells #[false,Z z B c5] 178) (.cells #[s6,Z a6 n6 c6] 178);have i:=iH (w:=T) (.cells #[false,Z z B c5] 178) (.cells #[s6,Z a6 n6 c6] 178);refine jp (fun u=>td u T false z B c5/\Below T T u) ⟨M,i⟩ ?_;clear M e2 i;rintro w6 ⟨k6,P⟩;have S:=a8.size;have c9:=TK k6;have j:Below w4 w4 w6:=a8.trans (P.mono S);have E:Below C C w6:=b9.trans (j.mono (by omega));have r:Below h h w6:=o.trans (j.mono (by omega));obtain⟨x0,x1,_,_⟩:=gQ (GP K4 j);obtain⟨z0,z1,_,_⟩:=gQ k6;have l:=(r.block (w+2) (by omega)).trans J2;have J6:=O l;have g0:=gD l 0;have g1:=gD l 1;have g2:=gD l 2;have g3:=gD l 3;obtain⟨v0,v1,v2,v3⟩:=gL l;have X:=O E;have W:=O r;have c0:=O P;clear k6 P j E r l;go_wp2_with fail;have a4:=kl (s':=s2) (a':=a2) (n':=A) (c':=c2) (t':=false) (b':=z) (m':=B) (d':=c5) J6;obtain⟨k0,k1,k2,H⟩:=gL a4;refine ar (v:=.agg #[s2,Z a2 A c2,false,Z z B c5]) ?_ rfl ?_
 .simp[results,results219,go_sem,k0,k1,k2,H]
 .have l2:=H2.go X
  have l5:=H5.go c0;have o2:mx w (w+3) a2 A:=mx.ofFresh (F2.mono (by omega));have o5:mx w (w+3) z B:=mx.ofFresh (F5.mono (by omega));exact⟨s2,a2,A,c2,z,B,c5,rfl,qY l2 o2 (show w.heap.size<=w.heap.size+2 by omega) (by omega),qY l5 o5 (show w.heap.size<=w.heap.size+2 by omega) (by omega),iR (a0.trans (W.mono (by omega))) (by omega),F2.mono (by omega),F5.mono (by omega)⟩
