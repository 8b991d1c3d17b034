import Derived.Test.YtgohdcccfkjooaaGreatDoorSAJ
namespace Go.Proofs.YtgohdcccfkjooaaGreatDoor
set_option linter.all false
set_option maxRecDepth 100000
set_option maxHeartbeats 3200000
open Go.Proofs.Tryz Go.RowKit
structure gR where
 nm:ByteArray
 i6:Int
 p9:Int
 stop:Int
 prim:Int
 fs:List Int
 ws:List Int
 l:List gM
 cf:List jd
structure iJ where
 a:Option Addr
 n:Nat
 c:Nat
def iJ.v(p:iJ):Value:=.slice p.a p.n p.c
def iw(x:gR)(f w s k:iJ):List Value:=[.string x.nm,.int .i64 x.i6,.int .i64 x.p9,.int .i64 x.stop,.int .i64 x.prim,.slice f.a f.n f.c,.slice w.a w.n w.c,.slice s.a s.n s.c,.slice k.a k.n k.c]
structure iP (S:Nat->Prop) (w:World) (x:gR) (f v s k:iJ):Prop where
 fs:IRp S w 2 f.a f.n f.c x.fs
 ws:IRp S w 2 v.a v.n v.c x.ws
 l:RR jE 22 S w s.a s.n s.c x.l
 cf:RR oB 2 S w k.a k.n k.c x.cf
 fn:f.n<=1000000
 wn:v.n<=1000000
 sn:s.n<=1000000
 kn:k.n<=1000000
 fc:f.a=none->f.c=0
 wc:v.a=none->v.c=0
 nm:x.nm.size<=9223372036854775807
def iP.kept{S T:Nat->Prop}{w w' x f v s k}(h:iP S w x f v s k)(a:gN S w w')(c:∀b,S b->T b):iP T w' x f v s k:=
 ⟨h.fs.kept a c,h.ws.kept a c,h.l.kept iD a c,h.cf.kept ky a c,h.fn,h.wn,h.sn,h.kn,h.fc,h.wc,h.nm⟩
def iP.go{w w' x f v s k}(h:iP (fun b=>b<w.heap.size) w x f v s k)(a:Below w w w'):iP (fun b=>b<w'.heap.size) w' x f v s k:=
 h.kept (gE a) (fun b h=>ab h a.size)
def hU(w:World)(g:Nat)(T:TypeId)(x:gR)(f v s k:iJ):Prop:=w.heap[g]? =some (.cells (iw x f v s k).toArray T (0,0))
def hU.cells{w g T x f v s k}(h:hU w g T x f v s k):
 w.cell? (J g)=some (.string x.nm)/\w.cell? ⟨g,1,none⟩=some (.int .i64 x.i6)/\w.cell? ⟨g,2,none⟩=some (.int .i64 x.p9)/\w.cell? ⟨g,3,none⟩=some (.int .i64 x.stop)/\w.cell? ⟨g,4,none⟩=some (.int .i64 x.prim)/\
 w.cell? ⟨g,5,none⟩=some (.slice f.a f.n f.c)/\w.cell? ⟨g,6,none⟩=some (.slice v.a v.n v.c)/\w.cell? ⟨g,7,none⟩=some (.slice s.a s.n s.c)/\w.cell? ⟨g,8,none⟩=some (.slice k.a k.n k.c):=by
 unfold hU iw at h;refine⟨?_,?_,?_,?_,?_,?_,?_,?_,?_⟩ <;>simp[World.cell?,h]
def hU.free{w g T x f v s k}(h:hU w g T x f v s k)(j):w.frozen? ⟨g,j,none⟩=false:=by
 unfold hU at h;simp[World.frozen?,h]
def hU.lt{w g T x f v s k}(h:hU w g T x f v s k):g<w.heap.size:=TK h
def hU.go{w w' g T x f v s k}(h:hU w g T x f v s k)(a:Below w w w'):hU w' g T x f v s k:=(a.block g h.lt).trans h
def tc(a:Int)(fs:List Int)(i:Nat):Bool:=bt (fs.getD (i*2) 0) (-a) a&&bt (fs.getD (i*2+1) 0) (-a) a
def mV(fs:List Int)(i j:Nat):Bool:=decide (fs.getD (i*2) 0=fs.getD (j*2) 0/\fs.getD (i*2+1) 0=fs.getD (j*2+1) 0)
def iV(a:Int)(fs:List Int)(i:Nat):Bool:=tc a fs i&& !(List.range i).any (mV fs i)
def jj(i6:Int):Int:=if i6=0 then 1000000 else 1000000000
def jx(i6:Int)(fs:List Int)(n:Nat):Bool:=(List.range n).all (iV (jj i6) fs)&&bt (n:Int) 1 5
def IR.at2{N w a n c zs}(h:IR N w 2 a n c zs){k}(g:k<n):
 ∃b off,a=some ⟨b,off,none⟩/\b<N/\w.cell? ⟨b,off+k*2,none⟩=some (.int .i64 (zs.getD (k*2) 0))/\w.cell? ⟨b,off+k*2+1,none⟩=some (.int .i64 (zs.getD (k*2+1) 0)):=by
 obtain⟨b,off,e,f,d⟩:=h.2.2 (by omega);exact⟨b,off,e,f,d (k*2) (by omega),d (k*2+1) (by omega)⟩
def jK{f:Nat->Bool}{n k}(b:k<n)(h:f k=false):(List.range n).all f=false:=by
 rw[dw];intro a;have:=an.1 a k (aJ.2 b);rw[h]at this;cases this
def jl{f:Nat->Bool}{k}(h:(List.range k).all f=true)(a:f k=true):(List.range (k+1)).all f=true:=by
 rw[bV,er,h];simp[a]
def Et(x f v s k g T w)(hg:hU w g T x f v s k)(hf:IR w w 2 f.a f.n f.c x.fs)(hn:f.n<=1000000):
 Calls prog 123 #[U g] w (iZ w (.bool (jx x.i6 x.fs f.n))):=by
 have Hg:=O hg;have Hf:=O hf;clear hg hf;obtain⟨fa,n,fc⟩:=f;simp only at*
 show Calls _ _ _ w (iZ w (.bool (jx x.i6 x.fs n)))
 obtain⟨_,c1,_,_,_,c5,_⟩:=Hg.cells;have hl:=Hg.lt
 have hm:∃r:Int,jj x.i6=r/\0<=r/\r<=1000000000/\((x.i6=0/\r=1000000)\/((x.i6==0)=false/\r=1000000000)):=by
  by_cases h0:x.i6=0
  .exact⟨1000000,by unfold jj;rw[aq h0],by omega,by omega,VR ⟨h0,rfl⟩⟩
  .exact⟨1000000000,by unfold jj;rw[aj h0],by omega,by omega,VS ⟨by simpa using h0,rfl⟩⟩
 obtain⟨r,a7,b4,b5,b0⟩:=hm;have a6:=O a7;clear a7
 obtain ⟨hd,rfl⟩|⟨hd,rfl⟩:=b0
 .rw[hd]at c1
  have Hd:=O hd;clear hd;go_enter func123,ntmps123;go_wp2_with fail
  go_loopw [20] (fun u wr=>∃i:Nat,i<=n/\u=.int .i64 (i:Int)/\(List.range i).all (iV (jj x.i6) x.fs)=true/\Below w w wr) (fun u _=>n-(intOf u).toNat)
  case atStart=>exact⟨0,by omega,rfl,rfl,TH _ _⟩
  case round=>
   obtain⟨i,hi,rfl,ho,l⟩:=hrel;have Ho:=O ho;have p:=O l;clear ho l;by_cases Q:i<n
   .obtain⟨b1,off,rfl,hlt,x0,x1⟩:=(Hf.go p).at2 Q
    have E:=Hf.go p;have b3:=E.2.1;have a2:=O E;clear E;clear c1 c5;obtain⟨_,c1,_,_,_,c5,_⟩:=(Hg.go p).cells
    have m:∀b,iV (jj x.i6) x.fs i=b->(b=true->(List.range (i+1)).all (iV (jj x.i6) x.fs)=true)/\(b=false->jx x.i6 x.fs n=false):=by
     intro b l;refine⟨fun e=>jl Ho (l.trans e),fun e=>?_⟩;unfold jx;rw[jK Q (l.trans e)];rfl
    have d:=O m;clear m
    have X:tc (jj x.i6) x.fs i=(bt (x.fs.getD (i*2) 0) (-1000000) 1000000&&bt (x.fs.getD (i*2+1) 0) (-1000000) 1000000):=by unfold tc;rw[a6]
    have B:=O X;clear X
    have P:∀j,mV x.fs i j=decide (x.fs.getD (i*2) 0=x.fs.getD (j*2) 0/\x.fs.getD (i*2+1) 0=x.fs.getD (j*2+1) 0):=fun j=>rfl
    generalize hp0:x.fs.getD (i*2) 0=p0 at*;generalize hp1:x.fs.getD (i*2+1) 0=p1 at*;have a1:=O P;clear P hp0 hp1;obtain⟨o,rfl⟩:∃o:World,o=wr:=⟨_,rfl⟩;have a8:g<o.heap.size:=ab hl p.size
    have a9:i<=fc:=by omega
    have q:=TL o (.cells #[p0,p1] 112);have M:=(TH o o).alloc (aa _) (.cells #[p0,p1] 112);have E5:=O q;have a0:=O M;clear q M;go_wp2_with fail;clear x0 x1 c1 c5
    go_loopw [33] (fun u wr=>∃j:Nat,j<=i/\u=.int .i64 (j:Int)/\(List.range j).any (mV x.fs i)=false/\wr.heap[o.heap.size]? =some (.cells #[p0,p1] 112 (0,0))/\Below o o wr) (fun u _=>i-(intOf u).toNat)
    case atStart=>exact⟨0,by omega,rfl,rfl,E5,a0⟩
    case round=>
     obtain⟨j,hj,rfl,N,q,L⟩:=hrel;have H:=O N;have y:=O L;have R:=TK q;have y0:=(gA q 0).trans rfl;have y1:=(gA q 1).trans rfl;have E6:=O q;clear N L q;by_cases a4:j<i
     .obtain⟨b2,o2,e2,a5,z0,z1⟩:=(a2.go y).at2 (k:=j) (by omega)
      cases e2;have S:=a1 j;generalize x.fs.getD (j*2) 0=r0 at*;generalize x.fs.getD (j*2+1) 0=r1 at*;have K:=O S;clear S
      have C:(p0=r0/\p1=r1)\/ ¬(p0=r0/\p1=r1)/\(((p0==r0)=false)\/(p0=r0/\(p1==r1)=false)):=by
       simp only[ak];omega
      obtain ⟨rfl,rfl⟩|⟨W,hw⟩:=C
      .go_wp2
       go_ret;refine⟨?_,I p (gY y)⟩;rw[(d false (by unfold iV;rw[lM a4 (K.trans (by simp))];simp)).2 rfl];rfl
      .have a3:=O W;clear W
       obtain hw|⟨rfl,hw⟩:=hw
       all_goals
        go_wp2
        go_roundw
        case rel=>exact⟨j+1,by omega,by go_num,(lL H).trans (K.trans (by simpa using a3.out)),(TJ _ _ _ R).trans E6,gY y⟩
        case measure=>simp[intOf];omega
     .obtain rfl:j=i:=by omega
      have A:=O (I p y);cases hq0:bt p0 (-1000000) 1000000<;>cases hq1:bt p1 (-1000000) 1000000
      all_goals
       have D:=O hq0;have Q1:=O hq1;clear hq0 hq1
       go_wp2_with(first
        |((with_reducible refine(jc p0 _ _ _).mono ?_);rintro e w2 ⟨t,l⟩;rw[D]at t;subst t;clear y0 y1;have y1:=((l.block _ R).trans E6|>fun h=>(gA h 1).trans rfl);have z:=O l;clear l)
        |((with_reducible refine(jc p1 _ _ _).mono ?_);rintro e w3 ⟨t,l⟩;rw[Q1]at t;subst t;have F:=O l;clear l))
      .go_ret
       refine⟨?_,I A z⟩;rw[(d false (by unfold iV;rw[B,D];rfl)).2 rfl];rfl
      .go_ret
       refine⟨?_,I A z⟩;rw[(d false (by unfold iV;rw[B,D];rfl)).2 rfl];rfl
      .go_ret
       refine⟨?_,I A (I z F)⟩;rw[(d false (by unfold iV;rw[B,D,Q1];rfl)).2 rfl];rfl
      .go_roundw
       case rel=>exact⟨j+1,by omega,by go_num,(d true (by unfold iV;rw[B,D,Q1,H];rfl)).1 rfl,I A (I z F)⟩
       case measure=>simp[intOf];omega
   .obtain rfl:i=n:=by omega
    clear c1 c5;obtain⟨_,c1,_,_,_,c5,_⟩:=(Hg.go p).cells
    go_wp2_with((with_reducible refine(jc _ _ _ _).mono ?_);rintro e w2 ⟨t,l⟩;subst t)
    go_ret;exact⟨by unfold jx;rw[Ho];rfl,I p l⟩
 .go_enter func123,ntmps123
  go_wp2_with fail
  go_loopw [20] (fun u wr=>∃i:Nat,i<=n/\u=.int .i64 (i:Int)/\(List.range i).all (iV (jj x.i6) x.fs)=true/\Below w w wr) (fun u _=>n-(intOf u).toNat)
  case atStart=>exact⟨0,by omega,rfl,rfl,TH _ _⟩
  case round=>
   obtain⟨i,hi,rfl,ho,l⟩:=hrel;have Ho:=O ho;have p:=O l;clear ho l;by_cases Q:i<n
   .obtain⟨b1,off,rfl,hlt,x0,x1⟩:=(Hf.go p).at2 Q
    have E:=Hf.go p;have b3:=E.2.1;have a2:=O E;clear E;clear c1 c5;obtain⟨_,c1,_,_,_,c5,_⟩:=(Hg.go p).cells
    have m:∀b,iV (jj x.i6) x.fs i=b->(b=true->(List.range (i+1)).all (iV (jj x.i6) x.fs)=true)/\(b=false->jx x.i6 x.fs n=false):=by
     intro b l;refine⟨fun e=>jl Ho (l.trans e),fun e=>?_⟩;unfold jx;rw[jK Q (l.trans e)];rfl
    have d:=O m;clear m
    have X:tc (jj x.i6) x.fs i=(bt (x.fs.getD (i*2) 0) (-1000000000) 1000000000&&bt (x.fs.getD (i*2+1) 0) (-1000000000) 1000000000):=by unfold tc;rw[a6]
    have B:=O X;clear X
    have P:∀j,mV x.fs i j=decide (x.fs.getD (i*2) 0=x.fs.getD (j*2) 0/\x.fs.getD (i*2+1) 0=x.fs.getD (j*2+1) 0):=fun j=>rfl
    generalize hp0:x.fs.getD (i*2) 0=p0 at*;generalize hp1:x.fs.getD (i*2+1) 0=p1 at*;have a1:=O P;clear P hp0 hp1;obtain⟨o,rfl⟩:∃o:World,o=wr:=⟨_,rfl⟩;have a8:g<o.heap.size:=ab hl p.size
    have a9:i<=fc:=by omega
    have q:=TL o (.cells #[p0,p1] 112);have M:=(TH o o).alloc (aa _) (.cells #[p0,p1] 112);have E5:=O q;have a0:=O M;clear q M;go_wp2_with fail;clear x0 x1 c1 c5
    go_loopw [33] (fun u wr=>∃j:Nat,j<=i/\u=.int .i64 (j:Int)/\(List.range j).any (mV x.fs i)=false/\wr.heap[o.heap.size]? =some (.cells #[p0,p1] 112 (0,0))/\Below o o wr) (fun u _=>i-(intOf u).toNat)
    case atStart=>exact⟨0,by omega,rfl,rfl,E5,a0⟩
    case round=>
     obtain⟨j,hj,rfl,N,q,L⟩:=hrel;have H:=O N;have y:=O L;have R:=TK q;have y0:=(gA q 0).trans rfl;have y1:=(gA q 1).trans rfl;have E6:=O q;clear N L q;by_cases a4:j<i
     .obtain⟨b2,o2,e2,a5,z0,z1⟩:=(a2.go y).at2 (k:=j) (by omega)
      cases e2;have S:=a1 j;generalize x.fs.getD (j*2) 0=r0 at*;generalize x.fs.getD (j*2+1) 0=r1 at*;have K:=O S;clear S
      have C:(p0=r0/\p1=r1)\/ ¬(p0=r0/\p1=r1)/\(((p0==r0)=false)\/(p0=r0/\(p1==r1)=false)):=by
       simp only[ak];omega
      obtain ⟨rfl,rfl⟩|⟨W,hw⟩:=C
      .go_wp2
       go_ret;refine⟨?_,I p (gY y)⟩;rw[(d false (by unfold iV;rw[lM a4 (K.trans (by simp))];simp)).2 rfl];rfl
      .have a3:=O W;clear W
       obtain hw|⟨rfl,hw⟩:=hw
       all_goals
        go_wp2
        go_roundw
        case rel=>exact⟨j+1,by omega,by go_num,(lL H).trans (K.trans (by simpa using a3.out)),(TJ _ _ _ R).trans E6,gY y⟩
        case measure=>simp[intOf];omega
     .obtain rfl:j=i:=by omega
      have A:=O (I p y);cases hq0:bt p0 (-1000000000) 1000000000<;>cases hq1:bt p1 (-1000000000) 1000000000
      all_goals
       have D:=O hq0;have Q1:=O hq1;clear hq0 hq1
       go_wp2_with(first
        |((with_reducible refine(jc p0 _ _ _).mono ?_);rintro e w2 ⟨t,l⟩;rw[D]at t;subst t;clear y0 y1;have y1:=((l.block _ R).trans E6|>fun h=>(gA h 1).trans rfl);have z:=O l;clear l)
        |((with_reducible refine(jc p1 _ _ _).mono ?_);rintro e w3 ⟨t,l⟩;rw[Q1]at t;subst t;have F:=O l;clear l))
      .go_ret
       refine⟨?_,I A z⟩;rw[(d false (by unfold iV;rw[B,D];rfl)).2 rfl];rfl
      .go_ret
       refine⟨?_,I A z⟩;rw[(d false (by unfold iV;rw[B,D];rfl)).2 rfl];rfl
      .go_ret
       refine⟨?_,I A (I z F)⟩;rw[(d false (by unfold iV;rw[B,D,Q1];rfl)).2 rfl];rfl
      .go_roundw
       case rel=>exact⟨j+1,by omega,by go_num,(d true (by unfold iV;rw[B,D,Q1,H];rfl)).1 rfl,I A (I z F)⟩
       case measure=>simp[intOf];omega
   .obtain rfl:i=n:=by omega
    clear c1 c5;obtain⟨_,c1,_,_,_,c5,_⟩:=(Hg.go p).cells
    go_wp2_with((with_reducible refine(jc _ _ _ _).mono ?_);rintro e w2 ⟨t,l⟩;subst t)
    go_ret;exact⟨by unfold jx;rw[Ho];rfl,I p l⟩
structure mj (D:Nat->Prop) (w:World) (x:gR) (f v s k:iJ):Prop where
 at':iP D w x f v s k
 q:∃(lq:List jT)(lo hi:Nat),qt lq=x.l/\RR (Sh rL (Value.slice s.a s.n s.c).ownBlock) 22 D w s.a s.n s.c lq/\qu lq/\(∀q∈lq,lo<=q.lo/\q.lo<=q.hi/\q.hi<=hi)/\
  IRp (fun b=>D b/\(b<lo\/hi<=b)) w 2 f.a f.n f.c x.fs/\IRp (fun b=>D b/\(b<lo\/hi<=b)) w 2 v.a v.n v.c x.ws/\RR oB 2 (fun b=>D b/\(b<lo\/hi<=b)) w k.a k.n k.c x.cf
def mj.keep{D E:Nat->Prop}{w w' x f v s k}(h:mj D w x f v s k)(c:gN D w w')(a:∀b,D b->E b):mj E w' x f v s k:=by
 obtain⟨i,lo,hi,h1,h2,h3,d,h5,e,g⟩:=h.q;exact⟨h.at'.kept c a,i,lo,hi,h1,h2.kept (BT jX _) c a,h3,d,h5.kept (c.mono (fun b h=>h.1)) (fun b h=>⟨a b h.1,h.2⟩),e.kept (c.mono (fun b h=>h.1)) (fun b h=>⟨a b h.1,h.2⟩),g.kept ky (c.mono (fun b h=>h.1)) (fun b h=>⟨a b h.1,h.2⟩)⟩
def mj.go{D E:Nat->Prop}{w w' x f v s k}(h:mj D w x f v s k)(a:Below w w w')(c:∀b,D b->b<w.heap.size)(d:∀b,D b->E b):mj E w' x f v s k:=
 h.keep ((gE a).mono c) d
def jR(ws:List Int)(i:Nat):Int:=if i=0 then 299999 else ws.getD ((i-1)*2) 0
def jM(ws:List Int)(i:Nat):Bool:=decide (jR ws i<ws.getD (i*2) 0)&&decide (ws.getD (i*2) 0<=2500000)&&bt (ws.getD (i*2+1) 0) 1 100
def kz(prim:Int)(ws:List Int)(n:Nat):Bool:=(List.range n).all (jM ws)&&bt (n:Int) 1 5&&bt prim 0 ((n:Int)-1)
def GH(x f v s k g T w)(hg:hU w g T x f v s k)(hf:IR w w 2 v.a v.n v.c x.ws)(hn:v.n<=1000000):
 Calls prog 124 #[U g] w (iZ w (.bool (kz x.prim x.ws v.n))):=by
 have Hg:=O hg;have Hf:=O hf;clear hg hf;obtain⟨va,n,vc⟩:=v;simp only at*
 show Calls _ _ _ w (iZ w (.bool (kz x.prim x.ws n)))
 obtain⟨_,_,_,_,_,_,P,_⟩:=Hg.cells;have hl:=Hg.lt;go_enter func124,ntmps124;go_wp2_with fail
 go_loopw [3,12] (fun pv iv wr=>∃i:Nat,i<=n/\iv=.int .i64 (i:Int)/\pv=.int .i64 (jR x.ws i)/\(List.range i).all (jM x.ws)=true/\Below w w wr) (fun _ iv _=>n-(intOf iv).toNat)
 case atStart=>exact⟨0,by omega,rfl,rfl,rfl,TH _ _⟩
 case round=>
  obtain⟨i,hi,rfl,rfl,ho,j⟩:=hrel;have Ho:=O ho;have z:=O j;clear ho j P;by_cases a4:i<n
  .obtain⟨b1,off,rfl,hlt,x0,x1⟩:=(Hf.go z).at2 a4
   have r:∀b,jM x.ws i=b->(b=true->(List.range (i+1)).all (jM x.ws)=true)/\(b=false->kz x.prim x.ws n=false):=by
    intro b j;refine⟨fun e=>jl Ho (j.trans e),fun e=>?_⟩;unfold kz;rw[jK a4 (j.trans e)];rfl
   have H:jM x.ws i=(decide (jR x.ws i<x.ws.getD (i*2) 0)&&decide (x.ws.getD (i*2) 0<=2500000)&&bt (x.ws.getD (i*2+1) 0) 1 100):=rfl
   have t:jR x.ws (i+1)=x.ws.getD (i*2) 0:=by unfold jR;rw[aj (by omega),cY]
   generalize jR x.ws i=pr at*;generalize hp0:x.ws.getD (i*2) 0=p0 at*;generalize hp1:x.ws.getD (i*2+1) 0=p1 at*;have q:=O r;have E:=O H;have M:=O t;clear r H t hp0 hp1;cases hq:bt p1 1 100<;>by_cases h1:pr<p0<;>by_cases h2:p0<=2500000
   all_goals
    have Q:=O hq;have D:=O h1;have H2:=O h2;clear hq
    go_wp2_with((with_reducible refine(jc p1 _ _ _).mono ?_);rintro e N ⟨m,j⟩;rw[Q]at m;subst m;have a7:wr.heap.size<N.heap.size:=(by(have:=j.size;simp at this;omega));have y0:=(gA ((j.block wr (by simp)).trans (TL wr _)) 0).trans rfl;have a0:=O (I (gY (TH _ _)) j);clear j)
   all_goals first
    |(go_ret
      refine⟨?_,(by first|exact I z a0|exact I z (gY (TH _ _)))⟩
      rw[(q false (by rw[E,Q];simp[D.out,H2.out])).2 rfl];rfl)
    |(go_roundw
      case rel=>exact⟨i+1,by omega,by go_num,by rw[M],(q true (by rw[E,Q];simp[D.out,H2.out])).1 rfl,I z a0⟩
      case measure=>simp[intOf];omega)
  .obtain rfl:i=n:=by omega
   obtain⟨_,_,_,_,c4,_,P,_⟩:=(Hg.go z).cells;have hgl:g<wr.heap.size:=ab hl z.size;have a6:IntKind.i64.wrap ((i:Int)-1)=(i:Int)-1:=TM _ (by omega);cases h1:bt (i:Int) 1 5
   all_goals
    have D:=O h1;clear h1;go_upto_region 9 with fail
   .refine ic 23 [] [] [(0,true),(1,true),(2,true),(3,true),(4,true),(5,true),(6,false),(7,true),(8,true),(9,true),(10,true),(11,true),(12,true),(13,true),(14,true),(15,true),(16,true),(17,true),(18,true),(19,true),(20,true),(21,true),(22,true)] (by kernel_rfl) (by kernel_rfl) ⟨by simp,by simp,fun _ h=>by cases h⟩ (fun _ _ _ _ _ h=>h) (fun _ _ o _ _ h=>by cases o<;>exact h) ?_
    iterate 6
     refine gZ (v:=?_) ?_ ?_;rotate_left
     .intro y C
      have z4:=(C.cell (p:=⟨g,4,none⟩) hgl).trans c4;have z6:=(C.cell (p:=⟨g,6,none⟩) hgl).trans P;go_simp;rfl
     try simp only[V]
    refine iK (fun x1 S K A=>?_);go_simp;refine(jc (i:Int) 1 5 _).mono ?_;rintro e N ⟨m,B⟩;rw[D]at m;subst m;refine A _ _ B ?_;clear A K;have u:Below wr wr x1:=gJ (k:=1) S;have d:=I u B
    iterate 1
     refine iy (v:=?_) ?_ ?_;rotate_left
     .intro y
      go_simp;rfl
     try simp only[V]
    iterate 13
     refine nh rfl (by rfl) ?_;try simp only[V]
    iterate 2
     refine iy (v:=?_) ?_ ?_;rotate_left
     .intro y
      go_simp;rfl
     try simp only[V]
    refine jV (l:=[]) rfl (fun W F=>?_);go_wp2;go_ret;refine⟨?_,I z (I d F)⟩;unfold kz;rw[Ho,D];rfl
   .refine ic 23 [] [] [(0,true),(1,true),(2,true),(3,true),(4,true),(5,true),(6,false),(7,true),(8,true),(9,true),(10,true),(11,true),(12,true),(13,true),(14,true),(15,true),(16,true),(17,true),(18,true),(19,true),(20,false),(21,true),(22,true)] (by kernel_rfl) (by kernel_rfl) ⟨by simp,by simp,fun _ h=>by cases h⟩ (fun _ _ _ _ _ h=>h) (fun _ _ o _ _ h=>by cases o<;>exact h) ?_
    iterate 6
     refine gZ (v:=?_) ?_ ?_;rotate_left
     .intro y C
      have z4:=(C.cell (p:=⟨g,4,none⟩) hgl).trans c4;have z6:=(C.cell (p:=⟨g,6,none⟩) hgl).trans P;go_simp;rfl
     try simp only[V]
    refine iK (fun x1 S K A=>?_);go_simp;refine(jc (i:Int) 1 5 _).mono ?_;rintro e N ⟨m,B⟩;rw[D]at m;subst m;refine A _ _ B ?_;clear A K;have u:Below wr wr x1:=gJ (k:=1) S;have d:=I u B;have k4:=(d.cell (p:=⟨g,4,none⟩) hgl).trans c4;have k6:=(d.cell (p:=⟨g,6,none⟩) hgl).trans P;have L:g<N.heap.size:=ab hgl d.size
    iterate 1
     refine iy (v:=?_) ?_ ?_;rotate_left
     .intro y
      go_simp;rfl
     try simp only[V]
    iterate 12
     refine gZ (v:=?_) ?_ ?_;rotate_left
     .intro y C
      have z4:=(C.cell (p:=⟨g,4,none⟩) L).trans k4;have z6:=(C.cell (p:=⟨g,6,none⟩) L).trans k6;go_simp;rfl
     try simp only[V]
    refine kH rfl (by rfl) (fun x2 a5 K A=>?_);go_simp;refine(jc x.prim 0 ((i:Int)-1) _).mono ?_;rintro e w4 ⟨m,R⟩;subst m;refine A _ _ R ?_;clear A K
    iterate 2
     refine iy (v:=?_) ?_ ?_;rotate_left
     .intro y
      go_simp;rfl
     try simp only[V]
    refine jV (l:=[]) rfl (fun W F=>?_);have a3:Below x2 x2 W:=I R F;have a2:Below N N W:=I a5 a3;have h14:Below wr wr W:=I d a2;have a1:Below w w W:=I z h14;have X:=O a1;clear a3 a2 h14 a1 R F a5 d;go_wp2;go_ret;refine⟨?_,X⟩;unfold kz;rw[Ho,D];rfl
abbrev ry(x:gR)(f v s k:iJ):Value:=.agg #[x.nm,x.i6,x.p9,x.stop,x.prim,Z f.a f.n f.c,Z v.a v.n v.c,Z s.a s.n s.c,Z k.a k.n k.c]
def qX(x f v s k)(w:World)(hf:IR w w 2 f.a f.n f.c x.fs)(hn:f.n<=1000000):
 Calls prog 109 #[ry x f v s k] w (iZ w (.bool (jx x.i6 x.fs f.n))):=by
 have Hf:=O hf;clear hf;obtain⟨fa,n,fc⟩:=f;simp only at*
 show Calls _ _ _ w (iZ w (.bool (jx x.i6 x.fs n)))
 have hm:∃o:Int,jj x.i6=o/\0<=o/\o<=1000000000/\((x.i6=0/\o=1000000)\/((x.i6==0)=false/\o=1000000000)):=by
  by_cases h0:x.i6=0
  .exact⟨1000000,by unfold jj;rw[aq h0],by omega,by omega,VR ⟨h0,rfl⟩⟩
  .exact⟨1000000000,by unfold jj;rw[aj h0],by omega,by omega,VS ⟨by simpa using h0,rfl⟩⟩
 obtain⟨o,b6,b9,c0,b7⟩:=hm;have b0:=O b6;clear b6;have b5:hU (w.alloc (.cells (iw x ⟨fa,n,fc⟩ v s k).toArray 37)) w 37 x ⟨fa,n,fc⟩ v s k:=TL w _;have b4:=(TH w w).alloc (aa _) (.cells (iw x ⟨fa,n,fc⟩ v s k).toArray 37);have a1:=O b5;have a0:=O b4;clear b5 b4;unfold ry
 obtain ⟨hd,rfl⟩|⟨hd,rfl⟩:=b7
 .have Hd:=O hd;clear hd
  go_enter func109,ntmps109;go_upto_region 1 with fail;refine gI (fun wx=>hU wx w 37 x ⟨fa,n,fc⟩ v s k/\Below w w wx) ⟨a1,a0⟩ ?_;clear a1 a0;rintro w1 ⟨E,g⟩;have hl:=E.lt;obtain⟨_,c1,_,_,_,c5,_⟩:=E.cells;have T:=O E;have a4:=O g;clear E g;rw[Hd]at c1;go_wp2_with fail
  go_loopw [4] (fun r wr=>∃i:Nat,i<=n/\r=.int .i64 (i:Int)/\(List.range i).all (iV (jj x.i6) x.fs)=true/\Below w1 w1 wr) (fun r _=>n-(intOf r).toNat)
  case atStart=>exact⟨0,by omega,rfl,rfl,TH _ _⟩
  case round=>
   obtain⟨i,hi,rfl,ho,g⟩:=hrel;have Ho:=O ho;have z:=O g;have h:=O (I a4 g);clear ho g c1 c5;obtain⟨_,_,_,_,_,c5,_⟩:=(T.go z).cells;have hgl:w.heap.size<wr.heap.size:=ab hl z.size;by_cases C:i<n
   .obtain⟨b1,off,rfl,hlt,X,x1⟩:=(Hf.go h).at2 C
    have B:=Hf.go h;have b8:=B.2.1;have K:=O B;clear B
    have m:∀b,iV (jj x.i6) x.fs i=b->(b=true->(List.range (i+1)).all (iV (jj x.i6) x.fs)=true)/\(b=false->jx x.i6 x.fs n=false):=by
     intro b g;refine⟨fun e=>jl Ho (g.trans e),fun e=>?_⟩;unfold jx;rw[jK C (g.trans e)];rfl
    have d:=O m;clear m
    have S:tc (jj x.i6) x.fs i=(bt (x.fs.getD (i*2) 0) (-1000000) 1000000&&bt (x.fs.getD (i*2+1) 0) (-1000000) 1000000):=by unfold tc;rw[b0]
    have u:=O S;clear S
    have P:∀j,mV x.fs i j=decide (x.fs.getD (i*2) 0=x.fs.getD (j*2) 0/\x.fs.getD (i*2+1) 0=x.fs.getD (j*2+1) 0):=fun j=>rfl
    generalize hp0:x.fs.getD (i*2) 0=p0 at*;generalize hp1:x.fs.getD (i*2+1) 0=p1 at*;have a5:=O P;have a2:=O hp0;have a3:=O hp1;clear P hp0 hp1;cases hq0:bt p0 (-1000000) 1000000<;>cases hq1:bt p1 (-1000000) 1000000
    all_goals
     have A:=O hq0;have W:=O hq1;clear hq0 hq1
     go_wp2_with(first
      |((with_reducible refine(ix p0 _ _ _).mono ?_);rintro e w2 ⟨q,g⟩;rw[A]at q;subst q;clear c5;have c5:=(T.go (I z g)).cells.2.2.2.2.2.1;replace x1:=(g.cell (p:=⟨b1,off+i*2+1,none⟩) hlt).trans x1;have t:=O g;clear g)
      |((with_reducible refine(ix p1 _ _ _).mono ?_);rintro e w3 ⟨q,g⟩;rw[W]at q;subst q;have F:=O g;clear g))
    .go_ret
     refine⟨?_,I h t⟩;rw[(d false (by unfold iV;rw[u,A];rfl)).2 rfl];rfl
    .go_ret
     refine⟨?_,I h t⟩;rw[(d false (by unfold iV;rw[u,A];rfl)).2 rfl];rfl
    .go_ret
     refine⟨?_,I h (I t F)⟩;rw[(d false (by unfold iV;rw[u,A,W];rfl)).2 rfl];rfl
    .obtain⟨wo,rfl⟩:∃wo:World,wo=w3:=⟨_,rfl⟩
     have D:=O (I t F);clear X x1 c5
     go_loopw [5] (fun r wq=>∃j:Nat,j<=i/\r=.int .i64 (j:Int)/\(List.range j).any (mV x.fs i)=false/\Below wr wr wq) (fun r _=>i-(intOf r).toNat)
     case atStart=>exact⟨0,by omega,rfl,rfl,D⟩
     case round=>
      obtain⟨j,hj,rfl,N,M⟩:=hrel;have H:=O N;have l:=O M;clear N M;by_cases a7:j<i
      .obtain⟨b3,o3,e3,a9,X,x1⟩:=(K.go l).at2 C
       cases e3;obtain⟨b2,o2,e2,a8,z0,z1⟩:=(K.go l).at2 (k:=j) (by omega);cases e2;obtain⟨_,_,_,_,_,c5,_⟩:=(T.go (I z l)).cells;have Q:=a5 j;rw[a2]at X;rw[a3]at x1;generalize x.fs.getD (j*2) 0=r0 at*;generalize x.fs.getD (j*2+1) 0=r1 at*;have L:=O Q;clear Q
       have y:(p0=r0/\p1=r1)\/ ¬(p0=r0/\p1=r1)/\(((p0==r0)=false)\/(p0=r0/\(p1==r1)=false)):=by
        simp only[ak];omega
       obtain ⟨rfl,rfl⟩|⟨R,hw⟩:=y
       .go_wp2_with fail
        go_quiet (fail)
        go_wp2_with fail;go_ret;refine⟨?_,I h (gV l _)⟩;rw[(d false (by unfold iV;rw[lM a7 (L.trans (by simp))];simp)).2 rfl];rfl
       .have a6:=O R;clear R
        obtain hw|⟨rfl,hw⟩:=hw
        all_goals
         go_wp2_with fail
         go_quiet (fail)
         go_wp2_with fail
         go_roundw
         case rel=>exact⟨j+1,by omega,by go_num,(lL H).trans (L.trans (by simpa using a6.out)),gV l _⟩
         case measure=>simp[intOf];omega
      .obtain rfl:j=i:=by omega
       go_wp2
       go_roundw
       case rel=>exact⟨j+1,by omega,by go_num,(d true (by unfold iV;rw[u,A,W,H];rfl)).1 rfl,I z l⟩
       case measure=>simp[intOf];omega
   .obtain rfl:i=n:=by omega
    go_wp2_with((with_reducible refine(ix _ _ _ _).mono ?_);rintro e w2 ⟨q,g⟩;subst q)
    go_ret;exact⟨by unfold jx;rw[Ho];rfl,I h g⟩
 .skip
  go_enter func109,ntmps109;go_upto_region 1 with fail;refine gI (fun wx=>hU wx w 37 x ⟨fa,n,fc⟩ v s k/\Below w w wx) ⟨a1,a0⟩ ?_;clear a1 a0;rintro w1 ⟨E,g⟩;have hl:=E.lt;obtain⟨_,c1,_,_,_,c5,_⟩:=E.cells;have T:=O E;have a4:=O g;clear E g;skip;go_wp2_with fail
  go_loopw [4] (fun r wr=>∃i:Nat,i<=n/\r=.int .i64 (i:Int)/\(List.range i).all (iV (jj x.i6) x.fs)=true/\Below w1 w1 wr) (fun r _=>n-(intOf r).toNat)
  case atStart=>exact⟨0,by omega,rfl,rfl,TH _ _⟩
  case round=>
   obtain⟨i,hi,rfl,ho,g⟩:=hrel;have Ho:=O ho;have z:=O g;have h:=O (I a4 g);clear ho g c1 c5;obtain⟨_,_,_,_,_,c5,_⟩:=(T.go z).cells;have hgl:w.heap.size<wr.heap.size:=ab hl z.size;by_cases C:i<n
   .obtain⟨b1,off,rfl,hlt,X,x1⟩:=(Hf.go h).at2 C
    have B:=Hf.go h;have b8:=B.2.1;have K:=O B;clear B
    have m:∀b,iV (jj x.i6) x.fs i=b->(b=true->(List.range (i+1)).all (iV (jj x.i6) x.fs)=true)/\(b=false->jx x.i6 x.fs n=false):=by
     intro b g;refine⟨fun e=>jl Ho (g.trans e),fun e=>?_⟩;unfold jx;rw[jK C (g.trans e)];rfl
    have d:=O m;clear m
    have S:tc (jj x.i6) x.fs i=(bt (x.fs.getD (i*2) 0) (-1000000000) 1000000000&&bt (x.fs.getD (i*2+1) 0) (-1000000000) 1000000000):=by unfold tc;rw[b0]
    have u:=O S;clear S
    have P:∀j,mV x.fs i j=decide (x.fs.getD (i*2) 0=x.fs.getD (j*2) 0/\x.fs.getD (i*2+1) 0=x.fs.getD (j*2+1) 0):=fun j=>rfl
    generalize hp0:x.fs.getD (i*2) 0=p0 at*;generalize hp1:x.fs.getD (i*2+1) 0=p1 at*;have a5:=O P;have a2:=O hp0;have a3:=O hp1;clear P hp0 hp1;cases hq0:bt p0 (-1000000000) 1000000000<;>cases hq1:bt p1 (-1000000000) 1000000000
    all_goals
     have A:=O hq0;have W:=O hq1;clear hq0 hq1
     go_wp2_with(first
      |((with_reducible refine(ix p0 _ _ _).mono ?_);rintro e w2 ⟨q,g⟩;rw[A]at q;subst q;clear c5;have c5:=(T.go (I z g)).cells.2.2.2.2.2.1;replace x1:=(g.cell (p:=⟨b1,off+i*2+1,none⟩) hlt).trans x1;have t:=O g;clear g)
      |((with_reducible refine(ix p1 _ _ _).mono ?_);rintro e w3 ⟨q,g⟩;rw[W]at q;subst q;have F:=O g;clear g))
    .go_ret
     refine⟨?_,I h t⟩;rw[(d false (by unfold iV;rw[u,A];rfl)).2 rfl];rfl
    .go_ret
     refine⟨?_,I h t⟩;rw[(d false (by unfold iV;rw[u,A];rfl)).2 rfl];rfl
    .go_ret
     refine⟨?_,I h (I t F)⟩;rw[(d false (by unfold iV;rw[u,A,W];rfl)).2 rfl];rfl
    .obtain⟨wo,rfl⟩:∃wo:World,wo=w3:=⟨_,rfl⟩
     have D:=O (I t F);clear X x1 c5
     go_loopw [5] (fun r wq=>∃j:Nat,j<=i/\r=.int .i64 (j:Int)/\(List.range j).any (mV x.fs i)=false/\Below wr wr wq) (fun r _=>i-(intOf r).toNat)
     case atStart=>exact⟨0,by omega,rfl,rfl,D⟩
     case round=>
      obtain⟨j,hj,rfl,N,M⟩:=hrel;have H:=O N;have l:=O M;clear N M;by_cases a7:j<i
      .obtain⟨b3,o3,e3,a9,X,x1⟩:=(K.go l).at2 C
       cases e3;obtain⟨b2,o2,e2,a8,z0,z1⟩:=(K.go l).at2 (k:=j) (by omega);cases e2;obtain⟨_,_,_,_,_,c5,_⟩:=(T.go (I z l)).cells;have Q:=a5 j;rw[a2]at X;rw[a3]at x1;generalize x.fs.getD (j*2) 0=r0 at*;generalize x.fs.getD (j*2+1) 0=r1 at*;have L:=O Q;clear Q
       have y:(p0=r0/\p1=r1)\/ ¬(p0=r0/\p1=r1)/\(((p0==r0)=false)\/(p0=r0/\(p1==r1)=false)):=by
        simp only[ak];omega
       obtain ⟨rfl,rfl⟩|⟨R,hw⟩:=y
       .go_wp2_with fail
        go_quiet (fail)
        go_wp2_with fail;go_ret;refine⟨?_,I h (gV l _)⟩;rw[(d false (by unfold iV;rw[lM a7 (L.trans (by simp))];simp)).2 rfl];rfl
       .have a6:=O R;clear R
        obtain hw|⟨rfl,hw⟩:=hw
        all_goals
         go_wp2_with fail
         go_quiet (fail)
         go_wp2_with fail
         go_roundw
         case rel=>exact⟨j+1,by omega,by go_num,(lL H).trans (L.trans (by simpa using a6.out)),gV l _⟩
         case measure=>simp[intOf];omega
      .obtain rfl:j=i:=by omega
       go_wp2
       go_roundw
       case rel=>exact⟨j+1,by omega,by go_num,(d true (by unfold iV;rw[u,A,W,H];rfl)).1 rfl,I z l⟩
       case measure=>simp[intOf];omega
   .obtain rfl:i=n:=by omega
    go_wp2_with((with_reducible refine(ix _ _ _ _).mono ?_);rintro e w2 ⟨q,g⟩;subst q)
    go_ret;exact⟨by unfold jx;rw[Ho];rfl,I h g⟩
