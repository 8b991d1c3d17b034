import Derived.Test.YtlnbjinneegciaaGreatDoorOAN
import Derived.Test.YtlnbjinneegciaaGreatDoorOAK
namespace Go.Proofs.YtlnbjinneegciaaGreatDoor
set_option linter.all false
set_option maxRecDepth 100000
set_option maxHeartbeats 3200000
open Go.Proofs.Tryz Go.RowKit
abbrev ry(x:gR)(f v s k:iJ):Value:=.agg #[x.nm,x.i9,x.p9,x.stop,x.i4,Z f.a f.n f.c,Z v.a v.n v.c,Z s.a s.n s.c,Z k.a k.n k.c]
def qX(x:gR)(f v s k:iJ)(w:World)(hf:IR w w 2 f.a f.n f.c x.fs)(hn:f.n<=1000000):
 Calls prog 73 #[ry x f v s k] w (iZ w (.bool (jx x.i9 x.fs f.n))):=by
 have Hf:=O hf;clear hf;obtain⟨fa,n,fc⟩:=f;simp only at*
 show Calls _ _ _ w (iZ w (.bool (jx x.i9 x.fs n)))
 have hm:∃o:Int,jj x.i9=o/\0<=o/\o<=1000000000/\((x.i9=0/\o=1000000)\/((x.i9==0)=false/\o=1000000000)):=by
  by_cases h0:x.i9=0
  .exact⟨1000000,by unfold jj;rw[aq h0],by omega,by omega,VR ⟨h0,rfl⟩⟩
  .exact⟨1000000000,by unfold jj;rw[aj h0],by omega,by omega,VS ⟨by simpa using h0,rfl⟩⟩
 obtain⟨o,a9,b5,b6,b0⟩:=hm;have a8:=O a9;clear a9;have X:=O (show hU (w.alloc (.cells (iw x ⟨fa,n,fc⟩ v s k).toArray 38)) w 38 x ⟨fa,n,fc⟩ v s k from TL w _);have W:=O ((TH w w).alloc (aa _) (.cells (iw x ⟨fa,n,fc⟩ v s k).toArray 38));unfold ry
 obtain ⟨hd,rfl⟩|⟨hd,rfl⟩:=b0
 .have Hd:=O hd;clear hd
  go_enter func73,ntmps73;go_upto_region 1 with fail;refine gI (fun wx=>hU wx w 38 x ⟨fa,n,fc⟩ v s k/\Below w w wx) ⟨X,W⟩ ?_;clear X W;rintro w1 ⟨E,g⟩;have hl:=E.lt;obtain⟨_,c1,_,_,_,c5,_⟩:=E.cells;have R:=O E;have a2:=O g;clear E g;rw[Hd]at c1;go_wp2
  go_loopw [4] (fun r wr=>∃i:Nat,i<=n/\r=.int .i64 (i:Int)/\(List.range i).all (iV (jj x.i9) x.fs)=true/\Below w1 w1 wr) (fun r _=>n-(intOf r).toNat)
  case atStart=>exact⟨0,by omega,rfl,rfl,TH _ _⟩
  case round=>
   obtain⟨i,hi,rfl,ho,g⟩:=hrel;have Ho:=O ho;have z:=O g;have h:=O (I a2 g);clear ho g c1 c5;obtain⟨_,_,_,_,_,c5,_⟩:=(R.go z).cells;have hgl:w.heap.size<wr.heap.size:=ab hl z.size;by_cases C:i<n
   .obtain⟨b1,off,rfl,hlt,T,x1⟩:=(Hf.go h).at2 C
    have B:=Hf.go h;have b4:=B.2.1;have K:=O B;clear B
    have m:∀b,iV (jj x.i9) x.fs i=b->(b=true->(List.range (i+1)).all (iV (jj x.i9) x.fs)=true)/\(b=false->jx x.i9 x.fs n=false):=by
     intro b g;refine⟨fun e=>jl Ho (g.trans e),fun e=>?_⟩;unfold jx;rw[jK C (g.trans e)];rfl
    have d:=O m;clear m
    have Q:tc (jj x.i9) x.fs i=(bt (x.fs.getD (i*2) 0) (-1000000) 1000000&&bt (x.fs.getD (i*2+1) 0) (-1000000) 1000000):=by unfold tc;rw[a8]
    have u:=O Q;clear Q;have a3:=O (show∀j,mV x.fs i j=decide (x.fs.getD (i*2) 0=x.fs.getD (j*2) 0/\x.fs.getD (i*2+1) 0=x.fs.getD (j*2+1) 0)from fun j=>rfl);generalize hp0:x.fs.getD (i*2) 0=p0 at*;generalize hp1:x.fs.getD (i*2+1) 0=p1 at*;have a0:=O hp0;have a1:=O hp1;clear hp0 hp1;cases hq0:bt p0 (-1000000) 1000000<;>cases hq1:bt p1 (-1000000) 1000000
    all_goals
     have A:=O hq0;have S:=O hq1;clear hq0 hq1
     go_wp2_with(first
      |((with_reducible refine(ix p0 _ _ _).mono ?_);rintro e w2 ⟨q,g⟩;rw[A]at q;subst q;clear c5;have c5:=(R.go (I z g)).cells.2.2.2.2.2.1;replace x1:=(g.cell (p:=⟨b1,off+i*2+1,none⟩) hlt).trans x1;have t:=O g;clear g)
      |((with_reducible refine(ix p1 _ _ _).mono ?_);rintro e w3 ⟨q,g⟩;rw[S]at q;subst q;have F:=O g;clear g))
    .go_ret
     refine⟨?_,I h t⟩;rw[(d false (by unfold iV;rw[u,A];rfl)).2 rfl];rfl
    .go_ret
     refine⟨?_,I h t⟩;rw[(d false (by unfold iV;rw[u,A];rfl)).2 rfl];rfl
    .go_ret
     refine⟨?_,I h (I t F)⟩;rw[(d false (by unfold iV;rw[u,A,S];rfl)).2 rfl];rfl
    .obtain⟨wo,rfl⟩:∃wo:World,wo=w3:=⟨_,rfl⟩
     have D:=O (I t F);clear T x1 c5
     go_loopw [5] (fun r wq=>∃j:Nat,j<=i/\r=.int .i64 (j:Int)/\(List.range j).any (mV x.fs i)=false/\Below wr wr wq) (fun r _=>i-(intOf r).toNat)
     case atStart=>exact⟨0,by omega,rfl,rfl,D⟩
     case round=>
      obtain⟨j,hj,rfl,N,M⟩:=hrel;have H:=O N;have l:=O M;clear N M;by_cases a5:j<i
      .obtain⟨b3,o3,e3,a7,T,x1⟩:=(K.go l).at2 C
       cases e3;obtain⟨b2,o2,e2,a6,z0,z1⟩:=(K.go l).at2 (k:=j) (by omega);cases e2;obtain⟨_,_,_,_,_,c5,_⟩:=(R.go (I z l)).cells;have L:=O (a3 j);rw[a0]at T;rw[a1]at x1;generalize x.fs.getD (j*2) 0=r0 at*;generalize x.fs.getD (j*2+1) 0=r1 at*
       have y:(p0=r0/\p1=r1)\/ ¬(p0=r0/\p1=r1)/\(((p0==r0)=false)\/(p0=r0/\(p1==r1)=false)):=by
        simp only[ak];omega
       obtain ⟨rfl,rfl⟩|⟨P,hw⟩:=y
       .go_wp2_with fail
        go_quiet (fail)
        go_wp2;go_ret;refine⟨?_,I h (gV l _)⟩;rw[(d false (by unfold iV;rw[lM a5 (L.trans (by simp))];simp)).2 rfl];rfl
       .have a4:=O P;clear P
        obtain hw|⟨rfl,hw⟩:=hw
        all_goals
         go_wp2_with fail
         go_quiet (fail)
         go_wp2
         go_roundw
         case rel=>exact⟨j+1,by omega,by go_num,(lL H).trans (L.trans (by simpa using a4.out)),gV l _⟩
         case measure=>simp[intOf];omega
      .obtain rfl:j=i:=by omega
       go_wp2
       go_roundw
       case rel=>exact⟨j+1,by omega,by go_num,(d true (by unfold iV;rw[u,A,S,H];rfl)).1 rfl,I z l⟩
       case measure=>simp[intOf];omega
   .obtain rfl:i=n:=by omega
    go_wp2_with((with_reducible refine(ix _ _ _ _).mono ?_);rintro e w2 ⟨q,g⟩;subst q)
    go_ret;exact⟨by unfold jx;rw[Ho];rfl,I h g⟩
 .skip
  go_enter func73,ntmps73;go_upto_region 1 with fail;refine gI (fun wx=>hU wx w 38 x ⟨fa,n,fc⟩ v s k/\Below w w wx) ⟨X,W⟩ ?_;clear X W;rintro w1 ⟨E,g⟩;have hl:=E.lt;obtain⟨_,c1,_,_,_,c5,_⟩:=E.cells;have R:=O E;have a2:=O g;clear E g;skip;go_wp2
  go_loopw [4] (fun r wr=>∃i:Nat,i<=n/\r=.int .i64 (i:Int)/\(List.range i).all (iV (jj x.i9) x.fs)=true/\Below w1 w1 wr) (fun r _=>n-(intOf r).toNat)
  case atStart=>exact⟨0,by omega,rfl,rfl,TH _ _⟩
  case round=>
   obtain⟨i,hi,rfl,ho,g⟩:=hrel;have Ho:=O ho;have z:=O g;have h:=O (I a2 g);clear ho g c1 c5;obtain⟨_,_,_,_,_,c5,_⟩:=(R.go z).cells;have hgl:w.heap.size<wr.heap.size:=ab hl z.size;by_cases C:i<n
   .obtain⟨b1,off,rfl,hlt,T,x1⟩:=(Hf.go h).at2 C
    have B:=Hf.go h;have b4:=B.2.1;have K:=O B;clear B
    have m:∀b,iV (jj x.i9) x.fs i=b->(b=true->(List.range (i+1)).all (iV (jj x.i9) x.fs)=true)/\(b=false->jx x.i9 x.fs n=false):=by
     intro b g;refine⟨fun e=>jl Ho (g.trans e),fun e=>?_⟩;unfold jx;rw[jK C (g.trans e)];rfl
    have d:=O m;clear m
    have Q:tc (jj x.i9) x.fs i=(bt (x.fs.getD (i*2) 0) (-1000000000) 1000000000&&bt (x.fs.getD (i*2+1) 0) (-1000000000) 1000000000):=by unfold tc;rw[a8]
    have u:=O Q;clear Q;have a3:=O (show∀j,mV x.fs i j=decide (x.fs.getD (i*2) 0=x.fs.getD (j*2) 0/\x.fs.getD (i*2+1) 0=x.fs.getD (j*2+1) 0)from fun j=>rfl);generalize hp0:x.fs.getD (i*2) 0=p0 at*;generalize hp1:x.fs.getD (i*2+1) 0=p1 at*;have a0:=O hp0;have a1:=O hp1;clear hp0 hp1;cases hq0:bt p0 (-1000000000) 1000000000<;>cases hq1:bt p1 (-1000000000) 1000000000
    all_goals
     have A:=O hq0;have S:=O hq1;clear hq0 hq1
     go_wp2_with(first
      |((with_reducible refine(ix p0 _ _ _).mono ?_);rintro e w2 ⟨q,g⟩;rw[A]at q;subst q;clear c5;have c5:=(R.go (I z g)).cells.2.2.2.2.2.1;replace x1:=(g.cell (p:=⟨b1,off+i*2+1,none⟩) hlt).trans x1;have t:=O g;clear g)
      |((with_reducible refine(ix p1 _ _ _).mono ?_);rintro e w3 ⟨q,g⟩;rw[S]at q;subst q;have F:=O g;clear g))
    .go_ret
     refine⟨?_,I h t⟩;rw[(d false (by unfold iV;rw[u,A];rfl)).2 rfl];rfl
    .go_ret
     refine⟨?_,I h t⟩;rw[(d false (by unfold iV;rw[u,A];rfl)).2 rfl];rfl
    .go_ret
     refine⟨?_,I h (I t F)⟩;rw[(d false (by unfold iV;rw[u,A,S];rfl)).2 rfl];rfl
    .obtain⟨wo,rfl⟩:∃wo:World,wo=w3:=⟨_,rfl⟩
     have D:=O (I t F);clear T x1 c5
     go_loopw [5] (fun r wq=>∃j:Nat,j<=i/\r=.int .i64 (j:Int)/\(List.range j).any (mV x.fs i)=false/\Below wr wr wq) (fun r _=>i-(intOf r).toNat)
     case atStart=>exact⟨0,by omega,rfl,rfl,D⟩
     case round=>
      obtain⟨j,hj,rfl,N,M⟩:=hrel;have H:=O N;have l:=O M;clear N M;by_cases a5:j<i
      .obtain⟨b3,o3,e3,a7,T,x1⟩:=(K.go l).at2 C
       cases e3;obtain⟨b2,o2,e2,a6,z0,z1⟩:=(K.go l).at2 (k:=j) (by omega);cases e2;obtain⟨_,_,_,_,_,c5,_⟩:=(R.go (I z l)).cells;have L:=O (a3 j);rw[a0]at T;rw[a1]at x1;generalize x.fs.getD (j*2) 0=r0 at*;generalize x.fs.getD (j*2+1) 0=r1 at*
       have y:(p0=r0/\p1=r1)\/ ¬(p0=r0/\p1=r1)/\(((p0==r0)=false)\/(p0=r0/\(p1==r1)=false)):=by
        simp only[ak];omega
       obtain ⟨rfl,rfl⟩|⟨P,hw⟩:=y
       .go_wp2_with fail
        go_quiet (fail)
        go_wp2;go_ret;refine⟨?_,I h (gV l _)⟩;rw[(d false (by unfold iV;rw[lM a5 (L.trans (by simp))];simp)).2 rfl];rfl
       .have a4:=O P;clear P
        obtain hw|⟨rfl,hw⟩:=hw
        all_goals
         go_wp2_with fail
         go_quiet (fail)
         go_wp2
         go_roundw
         case rel=>exact⟨j+1,by omega,by go_num,(lL H).trans (L.trans (by simpa using a4.out)),gV l _⟩
         case measure=>simp[intOf];omega
      .obtain rfl:j=i:=by omega
       go_wp2
       go_roundw
       case rel=>exact⟨j+1,by omega,by go_num,(d true (by unfold iV;rw[u,A,S,H];rfl)).1 rfl,I z l⟩
       case measure=>simp[intOf];omega
   .obtain rfl:i=n:=by omega
    go_wp2_with((with_reducible refine(ix _ _ _ _).mono ?_);rintro e w2 ⟨q,g⟩;subst q)
    go_ret;exact⟨by unfold jx;rw[Ho];rfl,I h g⟩
def pe(l:List gM):Bool:=match l[l.length-1]? with
 |some x=>pM x.s (x.zs.length/3)
 |none=>false
def kU(l:List gM)(i:Int):Int:=match l[i.toNat]? with
 |some x=>x.s.kind
 |none=>0
def iW(stop:Int)(l:List gM):Bool:=bt (l.length:Int) 2 16&&bt stop 0 ((l.length:Int)-2)&& !uM l&&pe l&& (kU l stop !=3)
def A4(x:gR)(f v s k:iJ)(g:Nat)(T:TypeId)(w:World)(hg:hU w g T x f v s k)(hf:RR jE 22 (fun b=>b<w.heap.size) w s.a s.n s.c x.l)(hn:s.n<=1000000):
 Calls prog 91 #[U g] w (iZ w (.bool (iW x.stop x.l))):=by
 have Hg:=O hg;have Hf:=O hf;have a8:=hf.1;clear hg hf;obtain⟨sa,n,sc⟩:=s;simp only at*;obtain⟨_,_,_,c3,_,_,_,R,_⟩:=Hg.cells;have hl:=Hg.lt
 have a7:iW x.stop x.l=(bt (n:Int) 2 16&&bt x.stop 0 ((n:Int)-2)&& !uM x.l&&pe x.l&& (kU x.l x.stop !=3)):=by unfold iW;rw[a8]
 have D:=O a7;clear a7;have d4:IntKind.i64.wrap ((n:Int)-2)=(n:Int)-2:=TM _ (by omega)
 cases h1:bt (n:Int) 2 16 with
 |false=>
  have H1:=O h1;clear h1;go_enter func91,ntmps91
  go_wp2_with((with_reducible refine(jc (n:Int) 2 16 _).mono ?_);rintro e w2 ⟨i,Hb:HQ _⟩;rw[H1]at i;subst i)
  go_ret;exact⟨by rw[D,H1];rfl,Hb⟩
 |true=>
  have d2:2<=(n:Int)/\(n:Int)<=16:=by simpa[bt]using h1
  have H1:=O h1;clear h1
  cases h2:bt x.stop 0 ((n:Int)-2)with
  |false=>
   have H2:=O h2;clear h2;go_enter func91,ntmps91
   go_wp2_with(first
    |((with_reducible refine(jc (n:Int) 2 16 _).mono ?_);rintro e w2 ⟨i,S⟩;rw[H1]at i;subst i;have Hb:=O S;clear c3 R;have c3:=(S.cell (p:=⟨g,3,none⟩) hl).trans (Hg.cells).2.2.2.1;clear S)
    |((with_reducible refine(jc x.stop 0 ((n:Int)-2) _).mono ?_);rintro e H ⟨i,L:HQ _⟩;rw[H2]at i;subst i))
   go_ret;exact⟨by rw[D,H1,H2];rfl,I Hb L⟩
  |true=>
   have b5:0<=x.stop/\x.stop<=(n:Int)-2:=by simpa[bt]using h2
   have H2:=O h2;clear h2;obtain⟨m,hm⟩:∃m,n=m+1:=⟨n-1,by omega⟩;obtain⟨j,hj⟩:∃j:Nat,x.stop=(j:Int):=⟨x.stop.toNat,by omega⟩
   have c0:m<n:=by omega
   have b9:j<n:=by omega
   have d3:IntKind.i64.wrap ((n:Int)-1)=(m:Int):=(TM _ (by omega)).trans (by omega);have Hm:=O hm;have Hj:=O hj;have c6:=O b5;clear hm hj b5;go_enter func91,ntmps91
   go_upto_region 5 with(first
    |((with_reducible refine(jc (n:Int) 2 16 _).mono ?_);rintro e w2 ⟨i,S⟩;rw[H1]at i;subst i;have Hb:=O S;clear c3 R;have c3:=(S.cell (p:=⟨g,3,none⟩) hl).trans (Hg.cells).2.2.2.1;clear S)
    |((with_reducible refine(jc x.stop 0 ((n:Int)-2) _).mono ?_);rintro e H ⟨i,S⟩;rw[H2]at i;subst i;have L:=O (I Hb S);clear S))
   have hgl:g<H.heap.size:=ab hl L.size;obtain⟨_,_,_,c3,_,_,_,R,_⟩:=(Hg.go L).cells;rw[Hj]at c3;have a4:=O (Hf.go iD L);obtain⟨b1,off,y,cs,rfl,hlt,u,⟨a2,n2,c2,rfl,hz,c4,b7,b8⟩,hr⟩:=a4.at c0;obtain⟨c8,c5,z,d1,e',_,b6,⟨a3,n3,c9,rfl,c1,_,_,_⟩,b4⟩:=a4.at b9;cases e'
   have a0:pe x.l=pM y.s n2:=by unfold pe;rw[a8,show n-1=m by(have:=Hm.out;omega),u];simp only;rw[<- mU hz]
   have X:kU x.l x.stop=z.s.kind:=by unfold kU;rw[Hj,aI,b6]
   have W:=O a0;have b0:=O X;have Hr:=O hr
   have d0:H.cell? ⟨b1,off+j*22,none⟩=some (.int .i64 z.s.kind):=by have:=b4 0 _ rfl;rwa[bE]at this
   clear a0 X hr b4 hz c1 u b6 b7 b8
   cases hbad:uM x.l with
   |true=>
    have A:=O hbad;clear hbad;refine ic 37 [] [] [(0,true),(1,true),(2,true),(3,true),(4,true),(5,true),(6,false),(7,true),(8,true),(9,true),(10,true),(11,true),(12,true),(13,true),(14,true),(15,true),(16,true),(17,true),(18,true),(19,true),(20,true),(21,true),(22,true),(23,true),(24,true),(25,true),(26,true),(27,true),(28,true),(29,true),(30,true),(31,true),(32,true),(33,true),(34,true),(35,true),(36,true)] (by kernel_rfl) (by kernel_rfl) ⟨by simp,by simp,fun _ h=>by cases h⟩ (fun _ _ _ _ _ h=>h) (fun _ _ o _ _ h=>by cases o<;>exact h) ?_
    iterate 6
     refine gZ (v:=?_) ?_ ?_;rotate_left
     .intro y u
      have z7:=(u.cell (p:=⟨g,7,none⟩) hgl).trans R;go_simp;rfl
     try simp only[V]
    refine iK (fun x1 N K F=>?_);go_simp;have q:Below H H x1:=gJ (k:=1) N;refine(su x.l _ n sc _ (a4.go iD q) hn).mono ?_;rintro e P ⟨i,C⟩;rw[A]at i;subst i;refine F _ _ C ?_;clear F K;have d:=I q C
    iterate 2
     refine iy (v:=?_) ?_ ?_;rotate_left
     .intro y
      go_simp;rfl
     try simp only[V]
    iterate 10
     refine nh rfl (by rfl) ?_;try simp only[V]
    iterate 2
     refine iy (v:=?_) ?_ ?_;rotate_left
     .intro y
      go_simp;rfl
     try simp only[V]
    iterate 14
     refine nh rfl (by rfl) ?_;try simp only[V]
    iterate 2
     refine iy (v:=?_) ?_ ?_;rotate_left
     .intro y
      go_simp;rfl
     try simp only[V]
    refine jV (l:=[]) rfl (fun w5 M=>?_);have E:=O (I L (I d M));clear d M C q N;go_wp2;go_ret;exact⟨by rw[D,A,H1,H2];rfl,E⟩
   |false=>
    have A:=O hbad;clear hbad;cases him:pM y.s n2
    .have a5:=O him;clear him
     refine ic 37 [] [] [(0,true),(1,true),(2,true),(3,true),(4,true),(5,true),(6,false),(7,true),(8,true),(9,true),(10,true),(11,true),(12,true),(13,true),(14,true),(15,true),(16,true),(17,true),(18,false),(19,true),(20,true),(21,true),(22,true),(23,true),(24,true),(25,true),(26,true),(27,true),(28,true),(29,true),(30,true),(31,true),(32,true),(33,true),(34,true),(35,true),(36,true)] (by kernel_rfl) (by kernel_rfl) ⟨by simp,by simp,fun _ h=>by cases h⟩ (fun _ _ _ _ _ h=>h) (fun _ _ o _ _ h=>by cases o<;>exact h) ?_
     iterate 6
      refine gZ (v:=?_) ?_ ?_;rotate_left
      .intro y u
       have z7:=(u.cell (p:=⟨g,7,none⟩) hgl).trans R;go_simp;rfl
      try simp only[V]
     refine iK (fun x1 N K F=>?_);go_simp;have q:Below H H x1:=gJ (k:=1) N;refine(su x.l _ n sc _ (a4.go iD q) hn).mono ?_;rintro e P ⟨i,C⟩;rw[A]at i;subst i;refine F _ _ C ?_;clear F K;have d:Below H H P:=I q C;have r:g<P.heap.size:=ab hgl d.size;have k7:=(d.cell (p:=⟨g,7,none⟩) hgl).trans R;have k3:=(d.cell (p:=⟨g,3,none⟩) hgl).trans c3;have B:b1<P.heap.size:=ab hlt d.size;have Kr:=O (jb Hr (gE d) hlt);have e0:=(d.cell (p:=⟨b1,off+j*22,none⟩) hlt).trans d0;have b2:=O d;clear C q N d c3 R d0
     iterate 2
      refine iy (v:=?_) ?_ ?_;rotate_left
      .intro y
       go_simp;rfl
      try simp only[V]
     iterate 8
      refine gZ (v:=?_) ?_ ?_;rotate_left
      .intro y u
       have z7:=(u.cell (p:=⟨g,7,none⟩) r).trans k7;go_simp;rfl
      try simp only[V]
     refine pE rfl rfl (by rfl) (fun y u=>jb Kr (gE u) B) _ rfl rfl ?_;(try simp only[V]);refine kH rfl (by rfl) (fun x2 a6 K F=>?_);go_simp;refine(BU y.s a2 n2 c2 _).mono ?_;rintro e w6 ⟨i,Q⟩;rw[a5]at i;subst i;refine F _ _ Q ?_;clear F K;have t:Below P P w6:=I a6 Q;have a1:g<w6.heap.size:=ab r t.size;have a9:b1<w6.heap.size:=ab B t.size;have l7:=(t.cell (p:=⟨g,7,none⟩) r).trans k7;have l3:=(t.cell (p:=⟨g,3,none⟩) r).trans k3;have f0:=(t.cell (p:=⟨b1,off+j*22,none⟩) B).trans e0;have b3:=O t;clear Q a6 t k3 k7 e0
     iterate 2
      refine iy (v:=?_) ?_ ?_;rotate_left
      .intro y
       go_simp;rfl
      try simp only[V]
     iterate 14
      refine nh rfl (by rfl) ?_;try simp only[V]
     iterate 2
      refine iy (v:=?_) ?_ ?_;rotate_left
      .intro y
       go_simp;rfl
      try simp only[V]
     refine jV (l:=[]) rfl (fun w5 M=>?_);have E:=O (I L (I b2 (I b3 M)));clear M;go_wp2;go_ret;exact⟨by rw[D,A,H1,H2,W,a5];rfl,E⟩
    .have a5:=O him;clear him
     refine ic 37 [] [] [(0,true),(1,true),(2,true),(3,true),(4,true),(5,true),(6,false),(7,true),(8,true),(9,true),(10,true),(11,true),(12,true),(13,true),(14,true),(15,true),(16,true),(17,true),(18,false),(19,true),(20,true),(21,true),(22,true),(23,true),(24,true),(25,true),(26,true),(27,true),(28,true),(29,true),(30,true),(31,true),(32,true),(33,true),(34,true),(35,true),(36,true)] (by kernel_rfl) (by kernel_rfl) ⟨by simp,by simp,fun _ h=>by cases h⟩ (fun _ _ _ _ _ h=>h) (fun _ _ o _ _ h=>by cases o<;>exact h) ?_
     iterate 6
      refine gZ (v:=?_) ?_ ?_;rotate_left
      .intro y u
       have z7:=(u.cell (p:=⟨g,7,none⟩) hgl).trans R;go_simp;rfl
      try simp only[V]
     refine iK (fun x1 N K F=>?_);go_simp;have q:Below H H x1:=gJ (k:=1) N;refine(su x.l _ n sc _ (a4.go iD q) hn).mono ?_;rintro e P ⟨i,C⟩;rw[A]at i;subst i;refine F _ _ C ?_;clear F K;have d:Below H H P:=I q C;have r:g<P.heap.size:=ab hgl d.size;have k7:=(d.cell (p:=⟨g,7,none⟩) hgl).trans R;have k3:=(d.cell (p:=⟨g,3,none⟩) hgl).trans c3;have B:b1<P.heap.size:=ab hlt d.size;have Kr:=O (jb Hr (gE d) hlt);have e0:=(d.cell (p:=⟨b1,off+j*22,none⟩) hlt).trans d0;have b2:=O d;clear C q N d c3 R d0
     iterate 2
      refine iy (v:=?_) ?_ ?_;rotate_left
      .intro y
       go_simp;rfl
      try simp only[V]
     iterate 8
      refine gZ (v:=?_) ?_ ?_;rotate_left
      .intro y u
       have z7:=(u.cell (p:=⟨g,7,none⟩) r).trans k7;go_simp;rfl
      try simp only[V]
     refine pE rfl rfl (by rfl) (fun y u=>jb Kr (gE u) B) _ rfl rfl ?_;(try simp only[V]);refine kH rfl (by rfl) (fun x2 a6 K F=>?_);go_simp;refine(BU y.s a2 n2 c2 _).mono ?_;rintro e w6 ⟨i,Q⟩;rw[a5]at i;subst i;refine F _ _ Q ?_;clear F K;have t:Below P P w6:=I a6 Q;have a1:g<w6.heap.size:=ab r t.size;have a9:b1<w6.heap.size:=ab B t.size;have l7:=(t.cell (p:=⟨g,7,none⟩) r).trans k7;have l3:=(t.cell (p:=⟨g,3,none⟩) r).trans k3;have f0:=(t.cell (p:=⟨b1,off+j*22,none⟩) B).trans e0;have b3:=O t;clear Q a6 t k3 k7 e0
     iterate 2
      refine iy (v:=?_) ?_ ?_;rotate_left
      .intro y
       go_simp;rfl
      try simp only[V]
     iterate 14
      refine gZ (v:=?_) ?_ ?_;rotate_left
      .intro y u
       have z7:=(u.cell (p:=⟨g,7,none⟩) a1).trans l7;have z3:=(u.cell (p:=⟨g,3,none⟩) a1).trans l3;have z0:=(u.cell (p:=⟨b1,off+j*22,none⟩) a9).trans f0;go_simp;rfl
      try simp only[V]
     iterate 2
      refine iy (v:=?_) ?_ ?_;rotate_left
      .intro y
       go_simp;rfl
      try simp only[V]
     refine jV (l:=[]) rfl (fun w5 M=>?_);have E:=O (I L (I b2 (I b3 M)));clear M;go_wp2;go_ret;exact⟨by rw[D,A,H1,H2,W,a5,b0];rfl,E⟩
def oC(w:World)(b:Nat)(ks:List ByteArray):Prop:=
 ∃c a,w.heap[b]? =some (.map c a)/\c.toList.map (fun e=>(e.key,e.val))=ks.map (fun s=>(Value.string s,Value.bool true))
def rx(s:ByteArray)(ks:List ByteArray):Bool:=ks.any fun k=>s==k
def tN(s:ByteArray):∀(l:List MapEntry)(ks:List ByteArray)(i:Nat),l.map (fun e=>(e.key,e.val))=ks.map (fun s=>(Value.string s,Value.bool true))->
 (rx s ks=true/\ ∃j,Instr.findNow .string (.string s) l i=some (some (j,.bool true)))\/(rx s ks=false/\Instr.findNow .string (.string s) l i=some none)
 |[],[],i,_=>VS ⟨by simp[rx],rfl⟩
 |[],k::ks,i,h=>by cases h
 |e::l,[],i,h=>by cases h
 |e::l,k::ks,i,h=>by
  simp only[aN,ei,dK]at h;obtain⟨⟨h1,h2⟩,h3⟩:=h;unfold Instr.findNow;rw[h1,h2];simp only[Instr.sameNow];cases e:(s==k)
  .obtain ⟨a,b⟩|⟨a,b⟩:=tN s l ks (i+1) h3
   .exact VR ⟨by unfold rx at*;rw[eN,e,a];rfl,b⟩
   .exact VS ⟨by unfold rx at*;rw[eN,e,a];rfl,b⟩
  .exact VR ⟨by unfold rx;rw[eN,e];rfl,i,rfl⟩
def tO{P:Program}{t kt e:TypeId}(l:P.underlying t=some (.map kt e))(a:P.underlying kt=some .string){w:World}(n:(zeroValue e).run P w=.ok (.bool false) w){b:Nat}{ks:List ByteArray}(h:oC w b ks)(s:ByteArray):
 (Instr.lookup t (.map (some b)) (.string s) false).run P w=.ok (.bool (rx s ks)) w:=by
 obtain⟨m,f,g,k⟩:=h
 have i:∀b,(Instr.checkKey b 10000 kt (.string s)).run P w=.ok () w:=fun b=>by
  rw[show(10000:Nat)=9999+1 from rfl,Instr.checkKey,bR,bQ a];rfl
 obtain ⟨c,j,d⟩|⟨c,d⟩:=tN s m.toList ks 0 k
 .simp[Instr.lookup,Instr.findKey,bR,bQ l,bQ a,MapKept.run_getObj_map g,i,d,c]
 .simp[Instr.lookup,Instr.findKey,bR,bQ l,bQ a,MapKept.run_getObj_map g,i,d,c,n]
def zt{P:Program}{t kt e:TypeId}(n:P.underlying t=some (.map kt e))(g:P.underlying kt=some .string){w:World}{b:Nat}{ks:List ByteArray}(h:oC w b ks)(s:ByteArray)(m:rx s ks=false):
 ∃w',(Instr.mapUpdate t (.map (some b)) (.string s) (.bool true)).run P w=.ok () w'/\oC w' b (ks++[s])/\w.grownBy w' (some b):=by
 obtain⟨d,a,f,c⟩:=h
 have l:(Instr.checkKey false 10000 kt (.string s)).run P w=.ok () w:=by
  rw[show(10000:Nat)=9999+1 from rfl,Instr.checkKey,bR,bQ g];rfl
 obtain ⟨i,_⟩|⟨i,o⟩:=tN s d.toList ks 0 c
 .rw[m]at i;cases i
 .refine⟨{w with heap:=w.heap.setIfInBounds b (.map (d.push {key:=.string s,val:=.bool true,born:=a}) (a+1))},?_,?_,?_⟩
  .simp[Instr.mapUpdate,Instr.findKey,bR,bQ n,bQ g,MapKept.run_getObj_map f,l,o,MapKept.run_setObj_map _ f]
  .have hlt:=TK f
   exact⟨d.push {key:=.string s,val:=.bool true,born:=a},a+1,by simp[hlt],by simp[c]⟩
  .refine⟨rfl,rfl,rfl,by simp,fun k g j=>?_⟩
   show(w.heap.setIfInBounds b _)[k]? =_
   rw[fD (fun e=>j (by rw[e]))]
def qV{ops:Array Oper}{c:List Oper}{o:Oper}{a:Act}{Q:Exit->Act->World->Prop}{w:World}{t kt e:TypeId}(p:prog.underlying t=some (.map kt e))(i:prog.underlying kt=some .string)(f:o.guard=none)(m x v:Operand)(k:o.op=.mapUpdate t m x v)
 {b:Nat}{ks:List ByteArray}(h:oC w b ks)(s:ByteArray)(n:rx s ks=false)(j:a.eval m=.map (some b))(r:a.eval x=.string s)(q:a.eval v=.bool true)
 (g:∀w',oC w' b (ks++[s])->w.grownBy w' (some b)->wpList prog ops Q c (a.put o.dst undef) w'):wpList prog ops Q (o::c) a w:=by
 obtain⟨w',l,h1,h2⟩:=zt p i h s n
 refine eT f fun K d=>?_
 unfold Oper.wp;simp[execOp,k,j,r,q,l,Result.andThen];exact d _ _ (g w' h1 h2)
def oC.block{w w':World}{b:Nat}{ks:List ByteArray}(h:oC w b ks)(d:w'.heap[b]? =w.heap[b]?):oC w' b ks:=by
 obtain⟨c,a,h1,h2⟩:=h;exact⟨c,a,d.trans h1,h2⟩
def QO:pB ByteArray:=fun _ _ s cs=>cs=[.string s]/\s.size<=9223372036854775807
def Xi:kR 1 QO where
 len:=by rintro S w x cs ⟨rfl,_⟩;rfl
 kept:=by rintro S T w w' x cs ⟨e,h⟩ b c;exact⟨e,h⟩
 one:=by rintro S w x cs ⟨rfl,_⟩ v a;simp only[aK]at a;subst a;rfl
def od(ks:List ByteArray)(i:Nat):Bool:=match ks[i]? with
 |some s=>!rx s (ks.take i)&&kI s
 |none=>false
def vV(ks:List ByteArray):Bool:=(List.range ks.length).all (od ks)
def Tryz.zeroBool(w:World):(zeroValue 4).run prog w=.ok (.bool false) w:=by kernel_rfl
def A5(ks:List ByteArray)(a:Option Addr)(n c:Nat)(w:World)(h:RR QO 1 (fun b=>b<w.heap.size) w a n c ks)(M:n<=1000000):
 Calls prog 126 #[Z a n c] w (iZ w (.bool (vV ks))):=by
 have H:=O h;have d:=h.1;clear h;have F:=@run_makeMap prog;go_enter func126,ntmps126;go_wp2
 go_loopw [9] (fun o wr=>∃k:Nat,k<=n/\o=.int .i64 (k:Int)/\oC wr w (ks.take k)/\(List.range k).all (od ks)=true/\Below w w wr) (fun o _=>n-(intOf o).toNat)
 case atStart=>exact⟨0,by omega,rfl,⟨#[],0,TL w _,rfl⟩,rfl,gY (TH _ _)⟩
 case round=>
  obtain⟨k,L,rfl,B,v:HQ _,Hb:HQ _⟩:=hrel;have t:=O B;obtain⟨K,p,j,_⟩:=B;have C:=TK j;clear j;by_cases i:k<n
  .obtain⟨b,off,s,cs,rfl,hlt,x:HQ _,⟨rfl,hsz⟩,hr⟩:=(H.go Xi Hb).at i
   have E:=hr 0 _ rfl;rw[bE,dn]at E;have A:=tO underlying105 underlying9 (Tryz.zeroBool wr) t s
   have z:od ks k=(!rx s (ks.take k)&&kI s):=by unfold od;rw[x]
   have m:=O z;clear hr z;cases h1:rx s (ks.take k)
   .cases h2:kI s
    all_goals
     rw[h1]at A;have g:=O h1;have l:=O h2;clear h1 h2
     go_wp2_with(first
      |((with_reducible refine(ze s _ hsz).mono ?_);rintro e N ⟨y,f:HQ _⟩;rw[l]at y;subst y)
      |(refine qV underlying105 underlying9 rfl (.tmp 21) (.tmp 22) _ rfl (t.block (f.block _ C)) s g rfl rfl rfl ?_;intro P (u:HQ _) hg3;have r:=O ((I Hb f).grown hg3 (I Hb f).size (fun q D=>(by cases D;exact aa _)));clear hg3))
    .go_ret
     refine⟨?_,I Hb f⟩;unfold vV;rw[d,jK i (m.trans (by rw[g,l];rfl))];rfl
    .go_roundw
     case rel=>exact⟨k+1,by omega,by go_num,by rw[mn x];exact u,jl v (m.trans (by rw[g,l];rfl)),r⟩
     case measure=>simp[intOf];omega
   .rw[h1]at A
    have g:=O h1;clear h1;go_wp2;go_ret;refine⟨?_,Hb⟩;unfold vV;rw[d,jK i (m.trans (by rw[g];rfl))];rfl
  .obtain rfl:k=n:=by omega
   go_wp2;go_ret;refine⟨?_,Hb⟩;unfold vV;rw[d,v];rfl
def vu(x:gR)(f v s k:iJ)(w:World)(hf:IR w w 2 v.a v.n v.c x.ws)(hn:v.n<=1000000):
 Calls prog 74 #[ry x f v s k] w (iZ w (.bool (VY x.i4 x.ws v.n))):=by
 have Hf:=O hf;clear hf;obtain⟨va,n,vc⟩:=v;simp only at*
 show Calls _ _ _ w (iZ w (.bool (VY x.i4 x.ws n)))
 have b9:=O (show hU (w.alloc (.cells (iw x f ⟨va,n,vc⟩ s k).toArray 38)) w 38 x f ⟨va,n,vc⟩ s k from TL w _);have b8:=O ((TH w w).alloc (aa _) (.cells (iw x f ⟨va,n,vc⟩ s k).toArray 38));unfold ry;go_enter func74,ntmps74;go_upto_region 1 with fail;refine gI (fun wx=>hU wx w 38 x f ⟨va,n,vc⟩ s k/\Below w w wx) ⟨b9,b8⟩ ?_;clear b9 b8;rintro w1 ⟨hg,C⟩;have hl:=hg.lt;obtain⟨_,_,_,_,_,_,c6,_⟩:=hg.cells;have Hg:=O hg;have c7:=O C;clear hg C;go_wp2
 go_loopw [3] (fun iv wr=>∃i:Nat,i<=n/\iv=.int .i64 (i:Int)/\299999<=jR x.ws i/\(List.range i).all (jM x.ws)=true/\Below w1 w1 wr) (fun iv _=>n-(intOf iv).toNat)
 case atStart=>exact⟨0,by omega,rfl,by simp[jR],rfl,TH _ _⟩
 case round=>
  obtain⟨i,hi,rfl,c5,ho,C⟩:=hrel;have Ho:=O ho;have Hb:=O C;have a0:=O (I c7 C);clear ho C c6;obtain⟨_,_,_,_,c4,_,c6,_⟩:=(Hg.go Hb).cells;have hgl:w.heap.size<wr.heap.size:=ab hl Hb.size;by_cases c2:i<n
  .have b4:=Hf.go a0
   obtain⟨b1,off,rfl,hlt,x0,x1⟩:=b4.at2 c2;have c8:=O b4;clear b4
   have a2:∀b,jM x.ws i=b->(b=true->(List.range (i+1)).all (jM x.ws)=true)/\(b=false->VY x.i4 x.ws n=false):=by
    intro b C;refine⟨fun e=>jl Ho (C.trans e),fun e=>?_⟩;unfold VY;rw[jK c2 (C.trans e)];rfl
   have a7:jM x.ws i=(decide (jR x.ws i<x.ws.getD (i*2) 0)&&decide (x.ws.getD (i*2) 0<=2500000)&&bt (x.ws.getD (i*2+1) 0) 1 100):=rfl
   have a3:jR x.ws (i+1)=x.ws.getD (i*2) 0:=by unfold jR;rw[aj (by omega),cY]
   have L:=O (show jR x.ws i=if i=0 then 299999 else x.ws.getD ((i-1)*2) 0 from rfl);generalize jR x.ws i=pr at*;generalize hp0:x.ws.getD (i*2) 0=p0 at*;generalize hp1:x.ws.getD (i*2+1) 0=p1 at*;have u:=O a2;have Q:=O a7;have a1:=O a3;have c9:=O c5;have C6:=O c6;clear a2 a7 a3 hp0 hp1 c5 c4;have a9:=O (TL wr (.cells #[p0,p1] 93));go_upto_region 5 with fail;refine gI (fun wx=>wx.heap[wr.heap.size]? =some (.cells #[p0,p1] 93 (0,0))/\Below wr wr wx) ⟨a9,gY (TH _ _)⟩ ?_;clear a9 x0 x1 c6;rintro W ⟨a5,b3⟩;have A:=TK a5;have b5:w.heap.size<W.heap.size:=ab hgl b3.size;have X:=(VV a5 0).trans rfl;have y1:=(VV a5 1).trans rfl;have a9:=O a5;have B:=O b3;clear a5 b3;cases hq0:bt p0 300000 2500000
   .have Q0:=O hq0
    have r:jM x.ws i=false:=by
     rw[Q];have:=c9.out;simp only[bt,cL,dQ]at hq0⊢;omega
    have P:=O r;clear hq0 r;refine ic 26 [] [] [(0,true),(1,true),(2,false),(3,true),(4,true),(5,true),(6,true),(7,true),(8,true),(9,true),(10,true),(11,true),(12,true),(13,true),(14,true),(15,true),(16,true),(17,true),(18,true),(19,true),(20,true),(21,true),(22,true),(23,true),(24,true),(25,true)] (by kernel_rfl) (by kernel_rfl) ⟨by simp,by simp,fun _ h=>by cases h⟩ (fun _ _ _ _ _ h=>h) (fun _ _ o _ _ h=>by cases o<;>exact h) ?_
    iterate 2
     refine gZ (v:=?_) ?_ ?_;rotate_left
     .intro y H
      have z0:=(H.cell (p:=J (wr.heap.size)) A).trans X;go_simp;rfl
     try simp only[V]
    refine iK (fun x1 F K z=>?_);go_simp;refine(ix p0 _ _ _).mono ?_;rintro e T ⟨m,q⟩;rw[Q0]at m;subst m;refine z _ _ q ?_;clear z K;have j:Below W W x1:=gJ (k:=1) F;have M:=O (I j q);clear q F j
    iterate 2
     refine iy (v:=?_) ?_ ?_;rotate_left
     .intro y
      go_simp;rfl
     try simp only[V]
    iterate 4
     refine nh rfl (by rfl) ?_;try simp only[V]
    iterate 2
     refine iy (v:=?_) ?_ ?_;rotate_left
     .intro y
      go_simp;rfl
     try simp only[V]
    iterate 14
     refine nh rfl (by rfl) ?_;try simp only[V]
    iterate 1
     refine iy (v:=?_) ?_ ?_;rotate_left
     .intro y
      go_simp;rfl
     try simp only[V]
    refine jV (l:=[]) rfl (fun w5 E=>?_);have R:=O (I M E);clear E;go_wp2;go_ret;exact⟨by rw[(u false P).2 rfl];rfl,I a0 (I B R)⟩
   .have R0:=O (show 300000<=p0/\p0<=2500000 by simpa[bt]using hq0)
    have Q0:=O hq0;clear hq0;cases hq1:bt p1 1 100
    .have Q1:=O hq1
     have r:jM x.ws i=false:=by rw[Q,hq1];simp
     have P:=O r;clear hq1 r;refine ic 26 [] [] [(0,true),(1,true),(2,false),(3,true),(4,true),(5,true),(6,true),(7,false),(8,true),(9,true),(10,true),(11,true),(12,true),(13,true),(14,true),(15,true),(16,true),(17,true),(18,true),(19,true),(20,true),(21,true),(22,true),(23,true),(24,true),(25,true)] (by kernel_rfl) (by kernel_rfl) ⟨by simp,by simp,fun _ h=>by cases h⟩ (fun _ _ _ _ _ h=>h) (fun _ _ o _ _ h=>by cases o<;>exact h) ?_
     iterate 2
      refine gZ (v:=?_) ?_ ?_;rotate_left
      .intro y H
       have z0:=(H.cell (p:=J (wr.heap.size)) A).trans X;go_simp;rfl
      try simp only[V]
     refine iK (fun x1 F K z=>?_);go_simp;refine(ix p0 _ _ _).mono ?_;rintro e T ⟨m,q⟩;rw[Q0]at m;subst m;refine z _ _ q ?_;clear z K;have j:Below W W x1:=gJ (k:=1) F;have d:=I j q;have k0:=(d.cell (p:=J (wr.heap.size)) A).trans X;have k1:=(d.cell (p:=⟨wr.heap.size,1,none⟩) A).trans y1;have g:wr.heap.size<T.heap.size:=ab A d.size;have M:=O d;clear q F j d X y1
     iterate 2
      refine iy (v:=?_) ?_ ?_;rotate_left
      .intro y
       go_simp;rfl
      try simp only[V]
     iterate 2
      refine gZ (v:=?_) ?_ ?_;rotate_left
      .intro y H
       have z1:=(H.cell (p:=⟨wr.heap.size,1,none⟩) g).trans k1;go_simp;rfl
      try simp only[V]
     refine kH rfl (by rfl) (fun x2 S K z=>?_);go_simp;refine(ix p1 _ _ _).mono ?_;rintro e w4 ⟨m,D⟩;rw[Q1]at m;subst m;refine z _ _ D ?_;clear z K;have t:Below T T x2:=S;have d:=I t D;have m0:=(d.cell (p:=J (wr.heap.size)) g).trans k0;have a4:wr.heap.size<w4.heap.size:=ab g d.size;have N:=O (I M d);clear D S t d k0 k1
     iterate 3
      refine iy (v:=?_) ?_ ?_;rotate_left
      .intro y
       go_simp;rfl
      try simp only[V]
     iterate 14
      refine nh rfl (by rfl) ?_;try simp only[V]
     iterate 1
      refine iy (v:=?_) ?_ ?_;rotate_left
      .intro y
       go_simp;rfl
      try simp only[V]
     refine jV (l:=[]) rfl (fun w5 E=>?_);have R:=O (I N E);clear E;go_wp2;go_ret;exact⟨by rw[(u false P).2 rfl];rfl,I a0 (I B R)⟩
    .skip
     have Q1:=O hq1;clear hq1;by_cases c1:i=0
     .subst c1
      have a6:jM x.ws 0=true:=by
       rw[Q,L,aq rfl,Q1];have:=R0.out;simp;omega
      have b0:=O a6;clear a6;refine ic 26 [] [] [(0,true),(1,true),(2,false),(3,true),(4,true),(5,true),(6,true),(7,false),(8,true),(9,true),(10,true),(11,true),(12,true),(13,true),(14,true),(15,true),(16,true),(17,true),(18,true),(19,true),(20,true),(21,true),(22,true),(23,true),(24,true),(25,true)] (by kernel_rfl) (by kernel_rfl) ⟨by simp,by simp,fun _ h=>by cases h⟩ (fun _ _ _ _ _ h=>h) (fun _ _ o _ _ h=>by cases o<;>exact h) ?_
      iterate 2
       refine gZ (v:=?_) ?_ ?_;rotate_left
       .intro y H
        have z0:=(H.cell (p:=J (wr.heap.size)) A).trans X;go_simp;rfl
       try simp only[V]
      refine iK (fun x1 F K z=>?_);go_simp;refine(ix p0 _ _ _).mono ?_;rintro e T ⟨m,q⟩;rw[Q0]at m;subst m;refine z _ _ q ?_;clear z K;have j:Below W W x1:=gJ (k:=1) F;have d:=I j q;have k0:=(d.cell (p:=J (wr.heap.size)) A).trans X;have k1:=(d.cell (p:=⟨wr.heap.size,1,none⟩) A).trans y1;have g:wr.heap.size<T.heap.size:=ab A d.size;have M:=O d;clear q F j d X y1
      iterate 2
       refine iy (v:=?_) ?_ ?_;rotate_left
       .intro y
        go_simp;rfl
       try simp only[V]
      iterate 2
       refine gZ (v:=?_) ?_ ?_;rotate_left
       .intro y H
        have z1:=(H.cell (p:=⟨wr.heap.size,1,none⟩) g).trans k1;go_simp;rfl
       try simp only[V]
      refine kH rfl (by rfl) (fun x2 S K z=>?_);go_simp;refine(ix p1 _ _ _).mono ?_;rintro e w4 ⟨m,D⟩;rw[Q1]at m;subst m;refine z _ _ D ?_;clear z K;have t:Below T T x2:=S;have d:=I t D;have m0:=(d.cell (p:=J (wr.heap.size)) g).trans k0;have a4:wr.heap.size<w4.heap.size:=ab g d.size;have N:=O (I M d);clear D S t d k0 k1
      iterate 6
       refine iy (v:=?_) ?_ ?_;rotate_left
       .intro y
        go_simp;rfl
       try simp only[V]
      iterate 10
       refine nh rfl (by rfl) ?_;try simp only[V]
      iterate 2
       refine iy (v:=?_) ?_ ?_;rotate_left
       .intro y
        go_simp;rfl
       try simp only[V]
      refine jV (l:=[]) rfl (fun w5 E=>?_);have R:=O (I N E);clear E;go_wp2
      go_roundw
      case rel=>exact⟨1,by omega,by go_num,by rw[a1];have:=R0.out;omega,(u true b0).1 rfl,I Hb (I B R)⟩
      case measure=>simp[intOf];omega
     .have d3:0<i:=by omega
      have a8:IntKind.i64.wrap ((i:Int)-1)=((i-1:Nat):Int):=by rw[TM _ (by omega)];omega
      have d0:i-1<n:=by omega
      rw[aj c1]at L;have c3:=L.out;obtain⟨b2,o2,e2,d2,z0,-⟩:=(c8).at2 (k:=i-1) d0;cases e2;rw[<- c3]at z0;have Z0:=O z0;clear c3 z0 L;by_cases d1:pr<p0
      all_goals
       have c0:=O d1;refine ic 26 [] [] [(0,true),(1,true),(2,false),(3,true),(4,true),(5,true),(6,true),(7,false),(8,true),(9,true),(10,true),(11,true),(12,true),(13,true),(14,true),(15,true),(16,true),(17,true),(18,true),(19,true),(20,true),(21,true),(22,true),(23,true),(24,true),(25,true)] (by kernel_rfl) (by kernel_rfl) ⟨by simp,by simp,fun _ h=>by cases h⟩ (fun _ _ _ _ _ h=>h) (fun _ _ o _ _ h=>by cases o<;>exact h) ?_
       iterate 2
        refine gZ (v:=?_) ?_ ?_;rotate_left
        .intro y H
         have z0:=(H.cell (p:=J (wr.heap.size)) A).trans X;go_simp;rfl
        try simp only[V]
       refine iK (fun x1 F K z=>?_);go_simp;refine(ix p0 _ _ _).mono ?_;rintro e T ⟨m,q⟩;rw[Q0]at m;subst m;refine z _ _ q ?_;clear z K;have j:Below W W x1:=gJ (k:=1) F;have d:=I j q;have k0:=(d.cell (p:=J (wr.heap.size)) A).trans X;have k1:=(d.cell (p:=⟨wr.heap.size,1,none⟩) A).trans y1;have g:wr.heap.size<T.heap.size:=ab A d.size;have M:=O d;clear q F j d X y1
       iterate 2
        refine iy (v:=?_) ?_ ?_;rotate_left
        .intro y
         go_simp;rfl
        try simp only[V]
       iterate 2
        refine gZ (v:=?_) ?_ ?_;rotate_left
        .intro y H
         have z1:=(H.cell (p:=⟨wr.heap.size,1,none⟩) g).trans k1;go_simp;rfl
        try simp only[V]
       refine kH rfl (by rfl) (fun x2 S K z=>?_);go_simp;refine(ix p1 _ _ _).mono ?_;rintro e w4 ⟨m,D⟩;rw[Q1]at m;subst m;refine z _ _ D ?_;clear z K;have t:Below T T x2:=S;have d:=I t D;have m0:=(d.cell (p:=J (wr.heap.size)) g).trans k0;have a4:wr.heap.size<w4.heap.size:=ab g d.size;have N:=O (I M d);clear D S t d k0 k1;have j6:=((I B N).cell (p:=⟨w.heap.size,6,none⟩) hgl).trans C6;have j0:=((I B N).cell (p:=⟨b1,off+(i-1)*2,none⟩) hlt).trans Z0;have b6:w.heap.size<w4.heap.size:=ab b5 N.size;have b7:b1<w4.heap.size:=ab hlt (I B N).size
       iterate 6
        refine iy (v:=?_) ?_ ?_;rotate_left
        .intro y
         go_simp;rfl
        try simp only[V]
       iterate 9
        refine gZ (v:=?_) ?_ ?_;rotate_left
        .intro y H
         have q6:=(H.cell (p:=⟨w.heap.size,6,none⟩) b6).trans j6;have q0:=(H.cell (p:=⟨b1,off+(i-1)*2,none⟩) b7).trans j0;have qm:=(H.cell (p:=J (wr.heap.size)) a4).trans m0;go_simp;rfl
        try simp only[V]
       iterate 3
        refine iy (v:=?_) ?_ ?_;rotate_left
        .intro y
         go_simp;rfl
        try simp only[V]
       refine jV (l:=[]) rfl (fun w5 E=>?_);have R:=O (I N E);clear E
      .have a6:jM x.ws i=true:=by
        rw[Q,Q1];have:=R0.out;have:=c0.out;simp;omega
       have b0:=O a6;clear a6;go_wp2
       go_roundw
       case rel=>exact⟨i+1,by omega,by go_num,by rw[a1];have:=R0.out;omega,(u true b0).1 rfl,I Hb (I B R)⟩
       case measure=>simp[intOf];omega
      .have r:jM x.ws i=false:=by
        rw[Q];have:=c0.out;simp;omega
       have P:=O r;clear r;go_wp2;go_ret;exact⟨by rw[(u false P).2 rfl];rfl,I a0 (I B R)⟩
  .obtain rfl:i=n:=by omega
   have a8:IntKind.i64.wrap ((i:Int)-1)=(i:Int)-1:=TM _ (by omega);cases h1:bt (i:Int) 1 5
   all_goals
    have H1:=O h1;clear h1
    go_wp2_with(first
     |((with_reducible refine(ix (i:Int) 1 5 _).mono ?_);rintro e W ⟨m,C⟩;rw[H1]at m;subst m;replace c4:=(C.cell (p:=⟨w.heap.size,4,none⟩) hgl).trans c4;replace c6:=(C.cell (p:=⟨w.heap.size,6,none⟩) hgl).trans c6;have B:=O C;clear C)
     |((with_reducible refine(ix x.i4 0 ((i:Int)-1) _).mono ?_);rintro e w4 ⟨m,C⟩;subst m;have M:=O C;clear C))
    go_ret;refine⟨by unfold VY;rw[Ho,H1];rfl,?_⟩
    first
     |exact I a0 (I B M)
     |exact I a0 B
def uY(x:gR)(f v s k:iJ)(w:World)(hf:RR jE 22 (fun b=>b<w.heap.size) w s.a s.n s.c x.l)(hn:s.n<=1000000):
 Calls prog 75 #[ry x f v s k] w (iZ w (.bool (iW x.stop x.l))):=by
 have Hf:=O hf;have K:=hf.1;clear hf;obtain⟨sa,n,sc⟩:=s;simp only at*;have b3:=O (show hU (w.alloc (.cells (iw x f v ⟨sa,n,sc⟩ k).toArray 38)) w 38 x f v ⟨sa,n,sc⟩ k from TL w _);have b0:=O ((TH w w).alloc (aa _) (.cells (iw x f v ⟨sa,n,sc⟩ k).toArray 38))
 have R:iW x.stop x.l=(bt (n:Int) 2 16&&bt x.stop 0 ((n:Int)-2)&& !uM x.l&&pe x.l&& (kU x.l x.stop !=3)):=by unfold iW;rw[K]
 have q:=O R;clear R;have e6:IntKind.i64.wrap ((n:Int)-2)=(n:Int)-2:=TM _ (by omega);unfold ry;go_enter func75,ntmps75;go_upto_region 1 with fail;refine gI (fun wx=>hU wx w 38 x f v ⟨sa,n,sc⟩ k/\Below w w wx) ⟨b3,b0⟩ ?_;clear b3 b0;rintro w1 ⟨hg,d⟩;have M:=hg.lt;obtain⟨_,_,_,c3,_,_,_,Q,_⟩:=hg.cells;have Hg:=O hg;have t:=O d;clear hg d;go_upto_region 2 with fail
 cases h1:bt (n:Int) 2 16 with
 |false=>
  have H:=O h1;clear h1
  go_wp2_with((with_reducible refine(ix (n:Int) 2 16 _).mono ?_);rintro e w2 ⟨g,d⟩;rw[H]at g;subst g;have r:=O d;clear d)
  go_ret;exact⟨by rw[q,H];rfl,I t r⟩
 |true=>
  have e3:2<=(n:Int)/\(n:Int)<=16:=by simpa[bt]using h1
  have H:=O h1;clear h1
  cases h2:bt x.stop 0 ((n:Int)-2)with
  |false=>
   have P:=O h2;clear h2
   go_wp2_with(first
    |((with_reducible refine(ix (n:Int) 2 16 _).mono ?_);rintro e w2 ⟨g,d⟩;rw[H]at g;subst g;replace c3:=(d.cell (p:=⟨w.heap.size,3,none⟩) M).trans c3;have r:=O d;clear d)
    |((with_reducible refine(ix x.stop 0 ((n:Int)-2) _).mono ?_);rintro e w3 ⟨g,d⟩;rw[P]at g;subst g;have A:=O d;clear d))
   go_ret;exact⟨by rw[q,H,P];rfl,I t (I r A)⟩
  |true=>
   have c0:0<=x.stop/\x.stop<=(n:Int)-2:=by simpa[bt]using h2
   have P:=O h2;clear h2;obtain⟨m,hm⟩:∃m,n=m+1:=⟨n-1,by omega⟩;obtain⟨j,hj⟩:∃j:Nat,x.stop=(j:Int):=⟨x.stop.toNat,by omega⟩
   have d3:m<n:=by omega
   have d2:j<n:=by omega
   have e5:IntKind.i64.wrap ((n:Int)-1)=(m:Int):=(TM _ (by omega)).trans (by omega);have Hm:=O hm;have Hj:=O hj;have d8:=O c0;clear hm hj c0;have a1:=O (Hf.go iD t);obtain⟨b1,off,y,cs,rfl,hlt,hy,⟨a2,n2,c2,rfl,hz,S,c8,b7⟩,hr⟩:=a1.at d3;obtain⟨d9,d7,z,e1,e',_,c1,⟨a3,n3,e0,rfl,d5,_,_,_⟩,b8⟩:=a1.at d2;cases e'
   have F:pe x.l=pM y.s n2:=by unfold pe;rw[K,show n-1=m by(have:=Hm.out;omega),hy];simp only;rw[<- mU hz]
   have E:kU x.l x.stop=z.s.kind:=by unfold kU;rw[Hj,aI,c1]
   have D:tr y=false->uM x.l=true:=fun e=>yI hy (by rw[e];rfl)
   have C:=O F;have B:=O E;have Hr:=O hr;have Hz:=O (hz.ir (fun _ h=>h));have b5:=O b7;have W:=O D
   have X:w1.cell? ⟨b1,off+j*22,none⟩=some (.int .i64 z.s.kind):=by have:=b8 0 _ rfl;rwa[bE]at this
   have D0:=O X;have C7:=O Q;clear F E hr b8 hz d5 hy c1 c8 b7 D X Q;cases hk3:(z.s.kind==3)
   case true=>
    have hk:kU x.l x.stop=3:=by rw[B];simpa using hk3
    have Hk:=O hk;clear hk
    go_wp2_with(first
     |((with_reducible refine(ix (n:Int) 2 16 _).mono ?_);rintro e w2 ⟨g,d⟩;rw[H]at g;subst g;replace c3:=(d.cell (p:=⟨w.heap.size,3,none⟩) M).trans c3;have r:=O d;clear d)
     |((with_reducible refine(ix x.stop 0 ((n:Int)-2) _).mono ?_);rintro e w3 ⟨g,d⟩;rw[P]at g;subst g;have o:=I r d;have Q:=(o.cell (p:=⟨w.heap.size,7,none⟩) M).trans C7;have X:=(o.cell (p:=⟨b1,off+j*22,none⟩) hlt).trans D0;have c3:=((Hg.go o).cells).2.2.2.1;rw[Hj]at c3;have A:=O o;clear d o))
    go_ret;exact⟨by rw[q,Hk];simp,I t A⟩
   case false=>
    have hk:(kU x.l x.stop !=3)=true:=by rw[B];simpa using hk3
    have Hk:=O hk;clear hk;cases him:(tr y&&pM y.s n2)
    case false=>
     have N:iW x.stop x.l=false:=by
      rw[q,C];cases L:tr y
      .rw[W L];simp
      .rw[L]at him;simp only[Bool.true_and]at him;rw[him];simp
     have a6:=O N;have a5:=O him;clear N him
     go_wp2_with(first
      |((with_reducible refine(ix (n:Int) 2 16 _).mono ?_);rintro e w2 ⟨g,d⟩;rw[H]at g;subst g;replace c3:=(d.cell (p:=⟨w.heap.size,3,none⟩) M).trans c3;have r:=O d;clear d)
      |((with_reducible refine(ix x.stop 0 ((n:Int)-2) _).mono ?_);rintro e w3 ⟨g,d⟩;rw[P]at g;subst g;have o:=I r d;have Q:=(o.cell (p:=⟨w.heap.size,7,none⟩) M).trans C7;have X:=(o.cell (p:=⟨b1,off+j*22,none⟩) hlt).trans D0;have c3:=((Hg.go o).cells).2.2.2.1;rw[Hj]at c3;have A:=O o;clear d)
      |(refine pW (jb Hr (gE o) hlt) (by rfl) (.tmp 34) rfl rfl ?_)
      |((with_reducible refine(zy y a2 n2 c2 _ (Hz.out.go o) S b5.out).mono ?_);rintro e w4 ⟨g,d⟩;rw[a5]at g;subst g;have a0:=O d;clear d))
     go_ret;exact⟨by rw[a6];rfl,I t (I A a0)⟩
    case true=>
     have T:uM x.l=false->iW x.stop x.l=true:=by
      intro d;rw[am]at him;rw[q,C,him.2,d,Hk,H,P];rfl
     have N:uM x.l=true->iW x.stop x.l=false:=by
      intro d;rw[q,d];simp
     have a6:=O N;have a9:=O T;have a5:=O him;clear N T him
     go_wp2_with(first
      |((with_reducible refine(ix (n:Int) 2 16 _).mono ?_);rintro e w2 ⟨g,d⟩;rw[H]at g;subst g;replace c3:=(d.cell (p:=⟨w.heap.size,3,none⟩) M).trans c3;have r:=O d;clear d)
      |((with_reducible refine(ix x.stop 0 ((n:Int)-2) _).mono ?_);rintro e w3 ⟨g,d⟩;rw[P]at g;subst g;have o:=I r d;have Q:=(o.cell (p:=⟨w.heap.size,7,none⟩) M).trans C7;have X:=(o.cell (p:=⟨b1,off+j*22,none⟩) hlt).trans D0;have c3:=((Hg.go o).cells).2.2.2.1;rw[Hj]at c3;have A:=O o;clear d)
      |(refine pW (jb Hr (gE o) hlt) (by rfl) (.tmp 34) rfl rfl ?_)
      |((with_reducible refine(zy y a2 n2 c2 _ (Hz.out.go o) S b5.out).mono ?_);rintro e w4 ⟨g,d⟩;rw[a5]at g;subst g;have a0:=O (I o d);clear d))
     clear c3 Q X o
     go_loopw [4] (fun iv wr=>∃i:Nat,i<=n/\iv=.int .i64 (i:Int)/\(x.l.take i).any (fun x=>!tr x)=false/\Below w1 w1 wr) (fun iv _=>n-(intOf iv).toNat)
     case atStart=>exact⟨0,by omega,rfl,rfl,a0⟩
     case round=>
      obtain⟨i,hi,rfl,L,d⟩:=hrel;have Ho:=O L;have r:=O d;clear L d;obtain⟨_,_,_,_,_,_,_,Q,_⟩:=(Hg.go r).cells;have hgl:w.heap.size<wr.heap.size:=ab M r.size;by_cases d1:i<n
      .obtain⟨b4,o4,u,e2,e4,d6,hu,⟨a4,n4,c4,rfl,a8,d4,-,c9⟩,b9⟩:=(a1.go iD r).at d1
       cases e4
       have a7:tr u=oA u.s u.zs n4:=by unfold tr;rw[<- mU a8]
       have c6:=O (a8.ir (fun _ h=>h));have c5:=O b9;clear a8 b9;cases L:oA u.s u.zs n4
       all_goals
        have HO:=O L;rw[L]at a7;have b6:=O a7;have Hu:=O hu;clear L a7 hu
        go_wp2_with(first
         |(refine lw c5 rfl (.tmp 47) rfl rfl ?_)
         |((with_reducible refine(lN u.s u.zs a4 n4 c4 _ c6.out d4 c9).mono ?_);rintro e w5 ⟨g,d⟩;rw[HO]at g;subst g;have b2:=O d;clear d))
       .go_ret
        refine⟨?_,I t (I r b2)⟩;rw[a6 (yI Hu (by rw[b6];rfl))];rfl
       .go_roundw
        case rel=>exact⟨i+1,by omega,by go_num,(wV Hu Ho).trans (by rw[b6];rfl),I r b2⟩
        case measure=>simp[intOf];omega
      .obtain rfl:i=n:=by omega
       go_wp2;go_ret;refine⟨?_,I t r⟩;have:=Ho.out;rw[<- K,bf]at this;rw[a9 this];rfl
def lr(l:List gM)(c:jd):Bool:=match tu l c.zs (c.zs.length/3)with
 |none=>false
 |some _=>decide (c.zs.length/3<=12)
def jo(l:List gM)(cf:List jd):Bool:=cf.all (lr l)&&decide (cf.length<=4)&&vV (cf.map jd.nm)
def kA{ops:Array Oper}{d:List Oper}{o:Oper}{a:Act}{Q:Exit->Act->World->Prop}{W:World}{α:Type}{R:pB α}{k:Nat}(ok:kR k R){T e:TypeId}{z:Value}{c:Nat}(f:prog.underlying e=some (.slice T))(n:(prog.info? T).map (fun i=>(i.zero,i.size,i.bytes))=some (some z,k,c))(r:z.cells.size=k)(p:0<k)(j:c<=10000)
 (m:o.guard=none)(s x:Operand)
 (q:o.op=.call {callee:=.builtin .append,args:=#[s,x],argTypes:=#[e,e]})(base:Nat)(w:World)(v:Value)(l:List α)(y:α)(cs:List Value)
 (N:Nat)(hN:l.length=N)(hs:a.eval s=v)(hrow:jD R k T base w v l)(hW:W=w.alloc (.cells cs.toArray T))(hx:a.eval x=.slice (J (w.heap.size)) 1 1)(hy:R (fun b=>base<=b/\b<w.heap.size/\v.ownBlock≠some b) w y cs)(hlen:l.length<=1000000)(hbase:base<=w.heap.size)
 (h:∀g cap w',jD R k T base w' (.slice (J g) (N+1) cap) (l++[y])->(∀B w0,B<=base->Below B w0 w->Below B w0 w')->gN (fun b=>b<w.heap.size/\v.ownBlock≠some b) w w'->w.heap.size<=w'.heap.size->wpList prog ops Q d (a.put o.dst (.slice (J g) (N+1) cap)) w'):
 wpList prog ops Q (o::d) a W:=by
 subst hN;exact Uq ok f n r p j m s x q base w v l y cs hs hrow hW hx hy hlen hbase h
def Tryz.infoString1:(prog.info? 9).map (fun i=>(i.zero,i.size,i.bytes))=some (some (.string ik),1,16):=by kernel_rfl
def BV{α:Type}{f:α->Bool}{l:List α}{k:Nat}{x:α}(h:l[k]? =some x)(h0:(l.take k).all f=true):(l.take (k+1)).all f=f x:=by
 rw[mn h,er,h0];simp
def Ew{α:Type}{f:α->Bool}{l:List α}{k:Nat}{x:α}(h:l[k]? =some x)(h0:f x=false):l.all f=false:=by
 rw[dw];intro a;have:=an.1 a x (aL h);rw[h0]at this;cases this
def C3(x:gR)(f v s k:iJ)(g:Nat)(T:TypeId)(w:World)(hg:hU w g T x f v s k)(hf:RR jE 22 (fun b=>b<w.heap.size) w s.a s.n s.c x.l)(hn:s.n<=1000000)
 (hc:RR oB 2 (fun b=>b<w.heap.size) w k.a k.n k.c x.cf)(hk:k.n<=1000000)(hp:jY w w):
 Calls prog 92 #[U g] w (iZ w (.bool (jo x.l x.cf))):=by
 have Hg:=O hg;have Hf:=O hf;have Hc:=O hc;have Hp:=O hp;have j:=hc.1;clear hg hf hc hp;obtain⟨sa,n,sc⟩:=s;obtain⟨ka,m,kc⟩:=k;simp only at*;obtain⟨_,_,_,_,_,_,_,_,c8⟩:=Hg.cells;have hl:=Hg.lt;go_enter func92,ntmps92;go_wp2
 go_loopw [3,14] (fun nv iv wr=>∃i:Nat,i<=m/\iv=.int .i64 (i:Int)/\jD QO 1 9 w wr nv ((x.cf.take i).map jd.nm)/\(x.cf.take i).all (lr x.l)=true/\Below w w wr) (fun _ iv _=>m-(intOf iv).toNat)
 case atStart=>exact⟨0,by omega,rfl,jD.nil _ _ _ _ _,rfl,TH _ _⟩
 case round=>
  clear c8;obtain⟨i,hi,rfl,ho,ha,R⟩:=hrel;have Ho:=O ho;have A:=O R;have Ha:=O ha;clear ho R ha;have hgl:g<wr.heap.size:=ab hl A.size;by_cases c4:i<m
  .obtain⟨b1,off,y,cs,rfl,hlt,X,⟨a2,C,c2,rfl,hz,c9,c3,b0⟩,hr⟩:=Hc.at c4
   have x0:=(A.cell (p:=⟨b1,off+i*2+0,none⟩) hlt).trans (hr 0 _ rfl);have x1:=(A.cell (p:=⟨b1,off+i*2+1,none⟩) hlt).trans (hr 1 _ rfl);rw[bE]at x0;have b7:=O (mU hz);have Hy:=O X;have Hz:=O (hz.ir (fun _ h=>h));have b6:=O b0;clear hr X hz c3 b0
   have b2:((x.cf.take i).map jd.nm).length=i:=by rw[aU,bn,j];omega
   have a5:=O b2;clear b2;have r:=O (show Below wr wr (wr.alloc (.cells #[y.nm,Z a2 C c2] 77))from gY (TH _ _));have F:=O (TL wr (.cells #[y.nm,Z a2 C c2] 77));go_upto_region 5 with fail;refine gI (fun wx=>wx.heap[wr.heap.size]? =some (.cells #[y.nm,Z a2 C c2] 77 (0,0))/\Below wr wr wx) ⟨F,r⟩ ?_;clear F r;rintro w2 ⟨L,a7⟩;have d0:w2.cell? (J (wr.heap.size))=some (.string y.nm):=(VV L 0).trans rfl;have c5:=TK L;have F:=O L;have r:=O a7;clear L a7
   go_upto_region 6 with(refine kA Xi underlying47 Tryz.infoString1 rfl (by omega) (by omega) rfl (.tmp 18) (.tmp 21) rfl w w2 u3 ((x.cf.take i).map jd.nm) y.nm [y.nm] i a5 rfl (Ho.go Xi r) rfl rfl ⟨rfl,b6⟩ (by rw[a5];omega) (af A.size r.size) ?_;intro g3 d3 w3 b3 a9 S b4)
   have b8:=O b3;have D:=O (a9 _ _ (aa _) (I A r));have c0:=O (af r.size b4);have a6:=O ((S wr ⟨c5,Ho.fresh (aa _)⟩).trans F);have d4:=O S;clear b3 a9 S b4;have c6:wr.heap.size<w3.heap.size:=TK a6
   have a3:g<w3.heap.size:=by have:=c0.out;omega
   have d1:w3.cell? ⟨wr.heap.size,1,none⟩=some (.slice a2 C c2):=(VV a6 1).trans rfl;obtain⟨_,_,_,_,_,_,_,c7,_⟩:=(Hg.go D).cells;refine ic 13 [] [] [(0,true),(1,true),(2,true),(3,true),(4,true),(5,true),(6,true),(7,false),(8,true),(9,true),(10,true),(11,true),(12,true)] (by kernel_rfl) (by kernel_rfl) ⟨by simp,by simp,fun _ h=>by cases h⟩ (fun _ _ _ _ _ h=>h) (fun _ _ o _ _ h=>by cases o<;>exact h) ?_
   iterate 7
    refine gZ (v:=?_) ?_ ?_;rotate_left
    .intro y X
     have z7:=(X.cell (p:=⟨g,7,none⟩) a3).trans c7;have z1:=(X.cell (p:=⟨wr.heap.size,1,none⟩) c6).trans d1;go_simp;with_reducible rfl
    try simp only[V]
   refine iK (fun x1 W K hK=>?_);go_simp;have d:Below w3 w3 x1:=gJ (k:=1) W;have P:=O (I D d)
   have B:∀b,lr x.l y=b->(b=true->(x.cf.take (i+1)).all (lr x.l)=true)/\(b=false->jo x.l x.cf=false):=by
    intro b R;refine⟨fun e=>(BV Hy Ha).trans (R.trans e),fun e=>?_⟩;unfold jo;rw[Ew Hy (R.trans e)];rfl
   have H:lr x.l y=(match tu x.l y.zs C with|none=>false|some _=>decide (C<=12)):=by unfold lr;rw[<- b7]
   have t:=O B;have z:=O H;clear B H;refine(W7 x.l y.zs sa a2 n sc C c2 _ (Hf.go iD P) hn (Hz.go P) c9 (Hp.go P)).mono ?_;rintro e w4 (⟨h1,rfl,q⟩|⟨l',g',m',c',h1,rfl,d2,q⟩)
   .refine hK _ _ q ?_
    clear hK K;have N:=O (I D (I d q));clear q W d
    iterate 5
     refine iy (v:=?_) ?_ ?_;rotate_left
     .intro y
      go_simp;with_reducible rfl
     try simp only[V]
    refine jV (l:=[]) rfl (fun w5 u=>?_);have E:=O (I N u);clear u;go_wp2;go_ret;refine⟨?_,E⟩;rw[(t false (by rw[z,h1])).2 rfl];rfl
   .refine hK _ _ q ?_
    clear hK K;have a0:=O (I d q);have N:=O (I D (I d q));clear q W d d2;by_cases c1:C<=12
    all_goals
     have a4:=O c1
     iterate 5
      refine iy (v:=?_) ?_ ?_;rotate_left
      .intro y
       go_simp;with_reducible rfl
      try simp only[V]
     refine jV (l:=[]) rfl (fun w5 u=>?_);have a1:=O (I a0 u);have E:=O (I N u);clear u;go_wp2_with fail
    .go_roundw
     case rel=>exact⟨i+1,by omega,by go_num,by rw[mn Hy,aT];exact b8.go Xi a1,(t true (by rw[z,h1];simp[a4.out])).1 rfl,E⟩
     case measure=>simp[intOf];omega
    .go_ret
     refine⟨?_,E⟩;rw[(t false (by rw[z,h1];simp[a4.out])).2 rfl];rfl
  .obtain rfl:i=m:=by omega
   obtain⟨_,_,_,_,_,_,_,_,c8⟩:=(Hg.go A).cells;have M:=Ho.out;have Q:=Ha.out;rw[<- j,bf]at M Q
   have B:jo x.l x.cf=(decide (i<=4)&&vV (x.cf.map jd.nm)):=by unfold jo;rw[Q,j];rfl
   have t:=O B;clear B
   have hv:∃a c,u3=.slice a i c:=by
    obtain ⟨rfl,e⟩|⟨g,cap,rfl,_,_,_,_,_⟩:=M.form
    .have:i=0:=by rw[<- j];have:=ai List.length e;simpa using this
     subst this;exact⟨none,0,rfl⟩
    .exact⟨_,_,by rw[aU,j]⟩
   obtain⟨av,cv,rfl⟩:=hv;have b9:=O (M.rr Xi);clear M Q;by_cases h4:i<=4
   all_goals
    go_wp2_with((with_reducible refine(A5 (x.cf.map jd.nm) av i cv _ b9.out hk).mono ?_);rintro e w2 ⟨he,a8⟩;subst he;have b5:=O a8;clear a8)
    go_ret
   .exact⟨by rw[t];simp[h4],I A b5⟩
   .exact⟨by rw[t];simp[h4],A⟩
def zu(l:List gM)(a:Option Addr)(n c:Nat)(w:World)(h:RR jE 22 (fun b=>b<w.heap.size) w a n c l)(hn:n<=1000000):
 Calls prog 108 #[Z a n c] w (fun e w'=>∃v,e=.returned v/\oJ w w' v l/\Below w w w'):=by
 have H:=O h;clear h;have F:=H.1;go_enter func108,ntmps108;go_wp2
 go_loopw [3,4] (fun v iv wr=>∃k:Nat,k<=n/\iv=.int .i64 (k:Int)/\oJ w wr v (l.take k)/\Below w w wr) (fun _ iv _=>n-(intOf iv).toNat)
 case atStart=>exact⟨0,by omega,rfl,oJ.nil _ _,TH _ _⟩
 case round=>
  obtain⟨k,hk,rfl,ho,f⟩:=hrel;have K:=O ho;have t:=O f;clear ho f;by_cases b4:k<n
  .obtain⟨b,off,x,cs,rfl,hlt,hx,⟨a2,j,c2,rfl,hz,b5,a3,a4⟩,hr⟩:=(H.go iD t).at b4
   have Hl:(l.take k).length=k:=by rw[bn,F];omega
   have y:=O (Y.new wr x.s a2 j c2);have d:=O (gY (o:=.cells (⟨x.s,a2,j,c2⟩:jt) 64) (TH wr wr));have Hx:=O hx;have Hz:=O (hz.ir (fun _ h=>h));have b0:=O a3;have Hr:=O hr;have b1:=O a4;have HL:=O Hl;clear hx hz a3 hr a4 Hl
   go_upto_region 6 with(first
    |(refine lw Hr rfl (.tmp 14) rfl rfl ?_)
    |(refine lC x.s a2 j c2 _ rfl rfl (.tmp 5) (.tmp 15) rfl rfl rfl ?_))
   refine gI (fun C=>Y C wr x.s a2 j c2/\Below wr wr C) ⟨y,d⟩ ?_;clear y d;rintro A ⟨h1,X⟩;have M:=h1.lt;have P:=h1.cells.2.2.2.2.2.2.2.2.2.2.2.2.2.2.2.2.2.2.2.2.2;have y:=O h1;have d:=O X;clear h1 X
   go_upto_region 7 with(first
    |(refine je underlying62 Tryz.infoFilm3 rfl (by omega) (by omega) rfl (.tmp 16) (.tmp 18) rfl A (.slice (J (A.heap.size)) 0 0) 0 [] rfl (World.ownsRow_made A #[] 0 (aa _) (by simp) rfl) (fun b=>b<A.heap.size) a2 j c2 x.zs rfl (IR.irp ((Hz.go d).below ((TH _ _).alloc (aa _) _) (aa _)) (fun _ h=>h)) b0 (by omega) (by simp) ?_;intro v' Q z u;obtain⟨a',c',rfl,a1,hi⟩:=lc z;have hi:=jN.own (S:=fun b=>A.heap.size<=b/\b<Q.heap.size) z (fun g h1 h2=>⟨h1,h2⟩);have E:Below A A Q:=((TH _ _).alloc (aa _) _).grown u (by simp) (by intro k hk;simp[Value.ownBlock]at hk;omega);clear z u P;have fz:=Y.free (Y.go y E M) 21;have P:=(Y.cells (Y.go y E M)).2.2.2.2.2.2.2.2.2.2.2.2.2.2.2.2.2.2.2.2.2;have Hi:=O hi;have b8:=O a1;have m:=O E;clear hi a1 E))
   have a5:jN (fun b=>A.heap.size<=b/\b<Q.heap.size) Q a' j c' x.zs:=by have k:=Hi.out;rw[aV]at k;exact k
   refine gI (fun C=>Y C wr x.s a' j c'/\Below wr wr C/\jN (fun b=>A.heap.size<=b/\b<C.heap.size) C a' j c' x.zs) ⟨Y.t9 (Y.go y m M) a' j c',(I d m).setCell (p:=⟨wr.heap.size,21,none⟩) (aa _) _,a5.kept ((gK wr [_] 21 Q).mono ?_) ?_⟩ ?_
   .intro b f;have:=f.1;omega
   .intro b f;simp;exact f
   clear y m a5 Hi P fz;rintro B ⟨h1,L,hi⟩;have b9:=h1.lt;have hy:rL (fun b=>w.heap.size<=b/\b<B.heap.size/\u3.ownBlock≠some b) B ⟨x,wr.heap.size,B.heap.size⟩ (gX x.s a' j c'):=⟨a',j,c',rfl,hi.kept (gN.refl _ _) (fun b f=>⟨⟨by have:=f.1;have:=t.size;have:=d.size;omega,f.2,K.r.fresh (by have:=f.1;have:=d.size;omega)⟩,⟨by show wr.heap.size<=b;have:=f.1;have:=d.size;omega,f.2⟩⟩),b5,b1⟩;obtain⟨lq,N,i,W,a8⟩:=K
   have a6:lq.length=k:=by rw[<- mD,N];exact HL
   have b2:=O N;have Hq:=O (i.go jX L);have a9:=O W;have D:=O a8;have T:=O a6;clear N i W a8 a6;have y:=O h1;have m:=O L;have Hy:=O hy;clear h1 L hi hy
   go_wp2_with(first
    |(refine gO y rfl (.tmp 5) rfl rfl ?_)
    |(refine kA jX underlying35 Tryz.infoSurf3 rfl (by omega) (by omega) rfl (.tmp 21) (.tmp 23) rfl w B u3 lq ⟨x,wr.heap.size,B.heap.size⟩ (gX x.s a' j c') k T rfl Hq rfl rfl Hy (by rw[T];omega) (af t.size m.size) ?_;intro g3 b7 w8 a7 a0 _ _;have b3:=O a7;have R:=O a0;clear a7 a0))
   go_roundw
   case rel=>
    have b6:=(R _ _ (aa _) (TH w B)).size;have c0:=d.size;have c3:=m.size;have c1:=t.size
    exact⟨k+1,by omega,by go_num,⟨_,by rw[Ek,b2,mn Hx];rfl,b3,a9.snoc (fun q i=>(D q i).2.2),(fun q i=>by
     obtain i|i:=bj.1 i
     .exact⟨(D q i).1,(D q i).2.1,by have:=(D q i).2.2;omega⟩
     .obtain rfl:=aK.1 i;exact⟨by show w.heap.size<=wr.heap.size;omega,by show wr.heap.size<=B.heap.size;omega,by show B.heap.size<=_;exact b6⟩)⟩,R _ _ (aa _) (I t m)⟩
   case measure=>simp[intOf];omega
  .obtain rfl:k=n:=by omega
   go_wp2;go_ret;have:=K.out;rw[<- F,bf]at this;exact⟨_,rfl,this,t⟩
def GI(x:gR)(f v s k:iJ)(g p:Nat)(T:TypeId)(w:World)(a:hU w g T x f v s k)(d:x.nm.size<=9223372036854775807)(h:w.cell? (J p)=some (.pointer (J g))):
 Calls prog 85 #[U p] w (iZ w (.bool (kI x.nm))):=by
 obtain⟨c0,_⟩:=a.cells;clear a;go_enter func85,ntmps85
 go_wp2_with((with_reducible refine(ze x.nm _ d).mono ?_);rintro e i ⟨c,b⟩;subst c)
 go_ret;exact⟨rfl,b⟩
def pN(i9 p9:Int):Bool:=bt i9 0 1000000000&&bt p9 1 1000000000
def GJ(x:gR)(f v s k:iJ)(g p:Nat)(T:TypeId)(w:World)(c:hU w g T x f v s k)(n:w.cell? (J p)=some (.pointer (J g)))(j:p<w.heap.size):
 Calls prog 87 #[U p] w (iZ w (.bool (pN x.i9 x.p9))):=by
 obtain⟨_,c1,l:HQ _,_⟩:=c.cells;have m:=c.lt;have P:=O n;clear c;cases h1:bt x.i9 0 1000000000<;>cases h2:bt x.p9 1 1000000000
 all_goals
  have d:=O h1;have h:=O h2;clear h1 h2;go_enter func87,ntmps87
  go_wp2_with(first
   |((with_reducible refine(jc x.i9 _ _ _).mono ?_);rintro e q ⟨a,b:HQ _⟩;rw[d]at a;subst a;have c2:=(b.cell (p:=⟨g,2,none⟩) m).trans l;have o:=(b.cell (p:=J p) j).trans P)
   |((with_reducible refine(jc x.p9 _ _ _).mono ?_);rintro e r ⟨a,i:HQ _⟩;rw[h]at a;subst a))
  go_ret;unfold pN;rw[d,h]
  first
   |exact⟨rfl,I b i⟩
   |exact⟨rfl,b⟩
def jO(x:gR):Nat->Bool
 |0=>kI x.nm
 |1=>pN x.i9 x.p9
 |2=>jx x.i9 x.fs (x.fs.length/2)
 |3=>VY x.i4 x.ws (x.ws.length/2)
 |4=>iW x.stop x.l
 |_=>jo x.l x.cf
def iI(x:gR):Bool:=(List.range 6).all (jO x)
def S5(g p:Nat):List Value:=[.func (.func 85) #[] #[U p],.func (.func 87) #[] #[U p],.func (.func 89) #[U g] #[],.func (.func 90) #[U g] #[],.func (.func 91) #[U g] #[],.func (.func 92) #[U g] #[]]
def qW{S:Nat->Prop}{w:World}{a:Option Addr}{n c:Nat}{zs:List Int}(h:IRp S w 2 a n c zs):n=zs.length/2:=by rw[h.1];omega
def Po(x:gR)(f v s k:iJ)(g p q c:Nat)(T T2:TypeId)(w:World)(S:hU w g T x f v s k)(hx:iP (fun b=>b<w.heap.size) w x f v s k)(X:w.cell? (J p)=some (.pointer (J g)))(K:p<w.heap.size)(R:jY w w)
 (L:w.heap[q]? =some (.cells (S5 g p).toArray T2 (0,0)))(hc:6<=c):
 Calls prog 84 #[Z (J q) 6 c] w (iZ w (.bool (iI x))):=by
 have Hg:=O S;have y:=O hx;have Hp:=O X;have HP:=O R;have Hq:=O L;have a0:=TK L;clear S hx X R L;go_enter func84,ntmps84;go_wp2_with fail;go_step3;go_wp2_with fail;go_step3;go_wp2
 go_loopw [3,8] (fun ov M wr=>∃i:Nat,i<=6/\M=.int .i64 (i:Int)/\ov=.bool true/\(List.range i).all (jO x)=true/\Below w w wr) (fun _ M _=>6-(intOf M).toNat)
 case atStart=>exact⟨0,by omega,rfl,rfl,rfl,TH _ _⟩
 case round=>
  obtain⟨i,hi,rfl,rfl,z:HQ _,Hb:HQ _⟩:=hrel;have A:=O (Hg.go Hb);have B:=O (y.go Hb);have P2:=O ((Hb.cell (p:=J p) K).trans Hp);have Q:=O (HP.go Hb);have E:p<wr.heap.size:=ab K Hb.size;have u:=(Hb.block _ a0).trans Hq;have r:=O (show∀j,j<6->jO x j=false->iI x=false from fun j hj h=>jK hj h)
  have F:jx x.i9 x.fs f.n=jO x 2:=by show _=jx x.i9 x.fs (x.fs.length/2);rw[<- qW y.fs]
  have H:VY x.i4 x.ws v.n=jO x 3:=by show _=VY x.i4 x.ws (x.ws.length/2);rw[<- qW y.ws]
  have N:=O F;have P:=O H;clear F H
  have W:i=0\/i=1\/i=2\/i=3\/i=4\/i=5\/i=6:=by omega
  obtain rfl|rfl|rfl|rfl|rfl|rfl|rfl:=W
  .have D:wr.cell? (J q)=some (.func (.func 85) #[] #[U p]):=(VV u 0).trans rfl
   cases hv:jO x 0
   all_goals
    have t:Hid (kI x.nm=_):=O (hv);have d:=O hv;clear hv
    go_wp2_with((with_reducible refine(GI x f v s k g p T _ A.out y.out.nm P2.out).mono ?_);rintro e C ⟨o,m⟩;rw[t]at o;subst o;have a:=O (I Hb m);clear m)
   .go_ret
    exact⟨by rw[r 0 (by omega) d];rfl,a⟩
   .go_roundw
    case rel=>exact⟨1,by omega,rfl,rfl,jl z d,a⟩
    case measure=>simp[intOf]
  .have D:wr.cell? ⟨q,1,none⟩=some (.func (.func 87) #[] #[U p]):=(VV u 1).trans rfl
   cases hv:jO x 1
   all_goals
    have t:Hid (pN x.i9 x.p9=_):=O (hv);have d:=O hv;clear hv
    go_wp2_with((with_reducible refine(GJ x f v s k g p T _ A.out P2.out E).mono ?_);rintro e C ⟨o,m⟩;rw[t]at o;subst o;have a:=O (I Hb m);clear m)
   .go_ret
    exact⟨by rw[r 1 (by omega) d];rfl,a⟩
   .go_roundw
    case rel=>exact⟨2,by omega,rfl,rfl,jl z d,a⟩
    case measure=>simp[intOf]
  .have D:wr.cell? ⟨q,2,none⟩=some (.func (.func 89) #[U g] #[]):=(VV u 2).trans rfl
   cases hv:jO x 2
   all_goals
    have t:Hid (jx x.i9 x.fs f.n=_):=O (N.trans hv);have d:=O hv;clear hv
    go_wp2_with((with_reducible refine(Et x f v s k g T _ A.out (B.out.fs.ir (fun _ h=>h)) y.out.fn).mono ?_);rintro e C ⟨o,m⟩;rw[t]at o;subst o;have a:=O (I Hb m);clear m)
   .go_ret
    exact⟨by rw[r 2 (by omega) d];rfl,a⟩
   .go_roundw
    case rel=>exact⟨3,by omega,rfl,rfl,jl z d,a⟩
    case measure=>simp[intOf]
  .have D:wr.cell? ⟨q,3,none⟩=some (.func (.func 90) #[U g] #[]):=(VV u 3).trans rfl
   cases hv:jO x 3
   all_goals
    have t:Hid (VY x.i4 x.ws v.n=_):=O (P.trans hv);have d:=O hv;clear hv
    go_wp2_with((with_reducible refine(GH x f v s k g T _ A.out (B.out.ws.ir (fun _ h=>h)) y.out.wn).mono ?_);rintro e C ⟨o,m⟩;rw[t]at o;subst o;have a:=O (I Hb m);clear m)
   .go_ret
    exact⟨by rw[r 3 (by omega) d];rfl,a⟩
   .go_roundw
    case rel=>exact⟨4,by omega,rfl,rfl,jl z d,a⟩
    case measure=>simp[intOf]
  .have D:wr.cell? ⟨q,4,none⟩=some (.func (.func 91) #[U g] #[]):=(VV u 4).trans rfl
   cases hv:jO x 4
   all_goals
    have t:Hid (iW x.stop x.l=_):=O (hv);have d:=O hv;clear hv
    go_wp2_with((with_reducible refine(A4 x f v s k g T _ A.out B.out.l y.out.sn).mono ?_);rintro e C ⟨o,m⟩;rw[t]at o;subst o;have a:=O (I Hb m);clear m)
   .go_ret
    exact⟨by rw[r 4 (by omega) d];rfl,a⟩
   .go_roundw
    case rel=>exact⟨5,by omega,rfl,rfl,jl z d,a⟩
    case measure=>simp[intOf]
  .have D:wr.cell? ⟨q,5,none⟩=some (.func (.func 92) #[U g] #[]):=(VV u 5).trans rfl
   cases hv:jO x 5
   all_goals
    have t:Hid (jo x.l x.cf=_):=O (hv);have d:=O hv;clear hv
    go_wp2_with((with_reducible refine(C3 x f v s k g T _ A.out B.out.l y.out.sn B.out.cf y.out.kn Q.out).mono ?_);rintro e C ⟨o,m⟩;rw[t]at o;subst o;have a:=O (I Hb m);clear m)
   .go_ret
    exact⟨by rw[r 5 (by omega) d];rfl,a⟩
   .go_roundw
    case rel=>exact⟨6,by omega,rfl,rfl,jl z d,a⟩
    case measure=>simp[intOf]
  .go_wp2
   go_ret;exact⟨by unfold iI;rw[z];rfl,Hb⟩
