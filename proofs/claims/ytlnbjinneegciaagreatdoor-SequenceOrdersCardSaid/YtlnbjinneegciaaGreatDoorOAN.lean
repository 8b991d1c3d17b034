import Derived.Test.YtlnbjinneegciaaGreatDoorOAI
namespace Go.Proofs.YtlnbjinneegciaaGreatDoor
set_option linter.all false
set_option maxRecDepth 100000
set_option maxHeartbeats 3200000
open Go.Proofs.Tryz Go.RowKit
structure gR where
 nm:ByteArray
 i9:Int
 p9:Int
 stop:Int
 i4:Int
 fs:List Int
 ws:List Int
 l:List gM
 cf:List jd
structure iJ where
 a:Option Addr
 n:Nat
 c:Nat
def iJ.v(p:iJ):Value:=.slice p.a p.n p.c
def iw(x:gR)(f w s k:iJ):List Value:=[.string x.nm,.int .i64 x.i9,.int .i64 x.p9,.int .i64 x.stop,.int .i64 x.i4,.slice f.a f.n f.c,.slice w.a w.n w.c,.slice s.a s.n s.c,.slice k.a k.n k.c]
structure iP (S:Nat->Prop) (w:World) (x:gR) (f v s k:iJ):Prop where
 fs:IRp S w 2 f.a f.n f.c x.fs
 ws:IRp S w 2 v.a v.n v.c x.ws
 l:RR jE 22 S w s.a s.n s.c x.l
 cf:RR oB 2 S w k.a k.n k.c x.cf
 fn:f.n<=1000000
 wn:v.n<=1000000
 sn:s.n<=1000000
 kn:k.n<=1000000
 fc:f.a=none->f.c=0
 wc:v.a=none->v.c=0
 nm:x.nm.size<=9223372036854775807
def iP.kept{S T:Nat->Prop}{w w':World}{x:gR}{f v s k:iJ}(h:iP S w x f v s k)(a:gN S w w')(c:∀b,S b->T b):iP T w' x f v s k:=
 ⟨h.fs.kept a c,h.ws.kept a c,h.l.kept iD a c,h.cf.kept ky a c,h.fn,h.wn,h.sn,h.kn,h.fc,h.wc,h.nm⟩
def iP.go{w w':World}{x:gR}{f v s k:iJ}(h:iP (fun b=>b<w.heap.size) w x f v s k)(a:Below w w w'):iP (fun b=>b<w'.heap.size) w' x f v s k:=
 h.kept (gE a) (fun b h=>ab h a.size)
def hU(w:World)(g:Nat)(T:TypeId)(x:gR)(f v s k:iJ):Prop:=w.heap[g]? =some (.cells (iw x f v s k).toArray T (0,0))
def hU.cells{w:World}{g:Nat}{T:TypeId}{x:gR}{f v s k:iJ}(h:hU w g T x f v s k):
 w.cell? (J g)=some (.string x.nm)/\w.cell? ⟨g,1,none⟩=some (.int .i64 x.i9)/\w.cell? ⟨g,2,none⟩=some (.int .i64 x.p9)/\w.cell? ⟨g,3,none⟩=some (.int .i64 x.stop)/\w.cell? ⟨g,4,none⟩=some (.int .i64 x.i4)/\
 w.cell? ⟨g,5,none⟩=some (.slice f.a f.n f.c)/\w.cell? ⟨g,6,none⟩=some (.slice v.a v.n v.c)/\w.cell? ⟨g,7,none⟩=some (.slice s.a s.n s.c)/\w.cell? ⟨g,8,none⟩=some (.slice k.a k.n k.c):=by
 unfold hU iw at h;refine⟨?_,?_,?_,?_,?_,?_,?_,?_,?_⟩ <;>simp[World.cell?,h]
def hU.free{w:World}{g:Nat}{T:TypeId}{x:gR}{f v s k:iJ}(h:hU w g T x f v s k)(j:Nat):w.frozen? ⟨g,j,none⟩=false:=by
 unfold hU at h;simp[World.frozen?,h]
def hU.lt{w:World}{g:Nat}{T:TypeId}{x:gR}{f v s k:iJ}(h:hU w g T x f v s k):g<w.heap.size:=TK h
def hU.go{w w':World}{g:Nat}{T:TypeId}{x:gR}{f v s k:iJ}(h:hU w g T x f v s k)(a:Below w w w'):hU w' g T x f v s k:=(a.block g h.lt).trans h
def tc(a:Int)(fs:List Int)(i:Nat):Bool:=bt (fs.getD (i*2) 0) (-a) a&&bt (fs.getD (i*2+1) 0) (-a) a
def mV(fs:List Int)(i j:Nat):Bool:=decide (fs.getD (i*2) 0=fs.getD (j*2) 0/\fs.getD (i*2+1) 0=fs.getD (j*2+1) 0)
def iV(a:Int)(fs:List Int)(i:Nat):Bool:=tc a fs i&& !(List.range i).any (mV fs i)
def jj(i9:Int):Int:=if i9=0 then 1000000 else 1000000000
def jx(i9:Int)(fs:List Int)(n:Nat):Bool:=(List.range n).all (iV (jj i9) fs)&&bt (n:Int) 1 5
def IR.at2{N:Nat}{w:World}{a:Option Addr}{n c:Nat}{zs:List Int}(h:IR N w 2 a n c zs){k:Nat}(g:k<n):
 ∃b off,a=some ⟨b,off,none⟩/\b<N/\w.cell? ⟨b,off+k*2,none⟩=some (.int .i64 (zs.getD (k*2) 0))/\w.cell? ⟨b,off+k*2+1,none⟩=some (.int .i64 (zs.getD (k*2+1) 0)):=by
 obtain⟨b,off,e,f,d⟩:=h.2.2 (by omega);exact⟨b,off,e,f,d (k*2) (by omega),d (k*2+1) (by omega)⟩
def jK{f:Nat->Bool}{n k:Nat}(b:k<n)(h:f k=false):(List.range n).all f=false:=by
 rw[dw];intro a;have:=an.1 a k (aJ.2 b);rw[h]at this;cases this
def jl{f:Nat->Bool}{k:Nat}(h:(List.range k).all f=true)(a:f k=true):(List.range (k+1)).all f=true:=by
 rw[bV,er,h];simp[a]
def Et(x:gR)(f v s k:iJ)(g:Nat)(T:TypeId)(w:World)(hg:hU w g T x f v s k)(hf:IR w w 2 f.a f.n f.c x.fs)(hn:f.n<=1000000):
 Calls prog 89 #[U g] w (iZ w (.bool (jx x.i9 x.fs f.n))):=by
 have N:=O hg;have Hf:=O hf;clear hg hf;obtain⟨fa,n,fc⟩:=f;simp only at*
 show Calls _ _ _ w (iZ w (.bool (jx x.i9 x.fs n)))
 obtain⟨_,c1,_,_,_,c5,_⟩:=N.cells;have hl:=N.lt
 have hm:∃p:Int,jj x.i9=p/\0<=p/\p<=1000000000/\((x.i9=0/\p=1000000)\/((x.i9==0)=false/\p=1000000000)):=by
  by_cases h0:x.i9=0
  .exact⟨1000000,by unfold jj;rw[aq h0],by omega,by omega,VR ⟨h0,rfl⟩⟩
  .exact⟨1000000000,by unfold jj;rw[aj h0],by omega,by omega,VS ⟨by simpa using h0,rfl⟩⟩
 obtain⟨p,a1:HQ _,hm1,hm2,hmm⟩:=hm
 obtain ⟨hd,rfl⟩|⟨hd,rfl⟩:=hmm
 .rw[hd]at c1
  have Hd:=O hd;clear hd;go_enter func89,ntmps89;go_wp2
  go_loopw [20] (fun r wr=>∃i:Nat,i<=n/\r=.int .i64 (i:Int)/\(List.range i).all (iV (jj x.i9) x.fs)=true/\Below w w wr) (fun r _=>n-(intOf r).toNat)
  case atStart=>exact⟨0,by omega,rfl,rfl,TH _ _⟩
  case round=>
   obtain⟨i,hi,rfl,W:HQ _,Hb:HQ _⟩:=hrel;by_cases F:i<n
   .obtain⟨b1,off,rfl,hlt,x0,x1⟩:=(Hf.go Hb).at2 F
    have A:=Hf.go Hb;have a4:=A.2.1;have R:=O A;clear A;clear c1 c5;obtain⟨_,c1,_,_,_,c5,_⟩:=(N.go Hb).cells
    have l:∀b,iV (jj x.i9) x.fs i=b->(b=true->(List.range (i+1)).all (iV (jj x.i9) x.fs)=true)/\(b=false->jx x.i9 x.fs n=false):=by
     intro b B;refine⟨fun e=>jl W (B.trans e),fun e=>?_⟩;unfold jx;rw[jK F (B.trans e)];rfl
    have d:=O l;clear l
    have L:tc (jj x.i9) x.fs i=(bt (x.fs.getD (i*2) 0) (-1000000) 1000000&&bt (x.fs.getD (i*2+1) 0) (-1000000) 1000000):=by unfold tc;rw[a1]
    have u:=O L;clear L;have Q:=O (show∀j,mV x.fs i j=decide (x.fs.getD (i*2) 0=x.fs.getD (j*2) 0/\x.fs.getD (i*2+1) 0=x.fs.getD (j*2+1) 0)from fun j=>rfl);generalize hp0:x.fs.getD (i*2) 0=p0 at*;generalize hp1:x.fs.getD (i*2+1) 0=p1 at*;clear hp0 hp1;obtain⟨m,rfl⟩:∃m:World,m=wr:=⟨_,rfl⟩;have a2:g<m.heap.size:=ab hl Hb.size
    have a3:i<=fc:=by omega
    have E5:=O (TL m (.cells #[p0,p1] 91));have P:=O ((TH m m).alloc (aa _) (.cells #[p0,p1] 91));go_wp2_with fail;clear x0 x1 c1 c5
    go_loopw [33] (fun r wr=>∃j:Nat,j<=i/\r=.int .i64 (j:Int)/\(List.range j).any (mV x.fs i)=false/\wr.heap[m.heap.size]? =some (.cells #[p0,p1] 91 (0,0))/\Below m m wr) (fun r _=>i-(intOf r).toNat)
    case atStart=>exact⟨0,by omega,rfl,rfl,E5,P⟩
    case round=>
     obtain⟨j,hj,rfl,D:HQ _,E6:HQ _,Hb2:HQ _⟩:=hrel;have H:=TK E6;have y0:=(VV E6 0).trans rfl;have y1:=(VV E6 1).trans rfl;by_cases X:j<i
     .obtain⟨b2,o2,e2,a0,z0,z1⟩:=(R.go Hb2).at2 (k:=j) (by omega)
      cases e2;have E:=O (Q j);generalize x.fs.getD (j*2) 0=r0 at*;generalize x.fs.getD (j*2+1) 0=r1 at*
      have y:(p0=r0/\p1=r1)\/ ¬(p0=r0/\p1=r1)/\(((p0==r0)=false)\/(p0=r0/\(p1==r1)=false)):=by
       simp only[ak];omega
      obtain ⟨rfl,rfl⟩|⟨K,hw⟩:=y
      .go_wp2
       go_ret;refine⟨?_,I Hb (gY Hb2)⟩;rw[(d false (by unfold iV;rw[lM X (E.trans (by simp))];simp)).2 rfl];rfl
      .have S:=O K;clear K
       obtain hw|⟨rfl,hw⟩:=hw
       all_goals
        go_wp2
        go_roundw
        case rel=>exact⟨j+1,by omega,by go_num,(lL D).trans (E.trans (by simpa using S.out)),(TJ _ _ _ H).trans E6,gY Hb2⟩
        case measure=>simp[intOf];omega
     .obtain rfl:j=i:=by omega
      have t:=O (I Hb Hb2);cases hq0:bt p0 (-1000000) 1000000<;>cases hq1:bt p1 (-1000000) 1000000
      all_goals
       have z:=O hq0;have M:=O hq1;clear hq0 hq1
       go_wp2_with(first
        |((with_reducible refine(jc p0 _ _ _).mono ?_);rintro e w2 ⟨q,o:HQ _⟩;rw[z]at q;subst q;clear y0 y1;have y1:=((o.block _ H).trans E6|>fun h=>(VV h 1).trans rfl))
        |((with_reducible refine(jc p1 _ _ _).mono ?_);rintro e w3 ⟨q,C:HQ _⟩;rw[M]at q;subst q))
      .go_ret
       refine⟨?_,I t o⟩;rw[(d false (by unfold iV;rw[u,z];rfl)).2 rfl];rfl
      .go_ret
       refine⟨?_,I t o⟩;rw[(d false (by unfold iV;rw[u,z];rfl)).2 rfl];rfl
      .go_ret
       refine⟨?_,I t (I o C)⟩;rw[(d false (by unfold iV;rw[u,z,M];rfl)).2 rfl];rfl
      .go_roundw
       case rel=>exact⟨j+1,by omega,by go_num,(d true (by unfold iV;rw[u,z,M,D];rfl)).1 rfl,I t (I o C)⟩
       case measure=>simp[intOf];omega
   .obtain rfl:i=n:=by omega
    clear c1 c5;obtain⟨_,c1,_,_,_,c5,_⟩:=(N.go Hb).cells
    go_wp2_with((with_reducible refine(jc _ _ _ _).mono ?_);rintro e w2 ⟨q,B⟩;subst q)
    go_ret;exact⟨by unfold jx;rw[W];rfl,I Hb B⟩
 .go_enter func89,ntmps89
  go_wp2
  go_loopw [20] (fun r wr=>∃i:Nat,i<=n/\r=.int .i64 (i:Int)/\(List.range i).all (iV (jj x.i9) x.fs)=true/\Below w w wr) (fun r _=>n-(intOf r).toNat)
  case atStart=>exact⟨0,by omega,rfl,rfl,TH _ _⟩
  case round=>
   obtain⟨i,hi,rfl,W:HQ _,Hb:HQ _⟩:=hrel;by_cases F:i<n
   .obtain⟨b1,off,rfl,hlt,x0,x1⟩:=(Hf.go Hb).at2 F
    have A:=Hf.go Hb;have a4:=A.2.1;have R:=O A;clear A;clear c1 c5;obtain⟨_,c1,_,_,_,c5,_⟩:=(N.go Hb).cells
    have l:∀b,iV (jj x.i9) x.fs i=b->(b=true->(List.range (i+1)).all (iV (jj x.i9) x.fs)=true)/\(b=false->jx x.i9 x.fs n=false):=by
     intro b B;refine⟨fun e=>jl W (B.trans e),fun e=>?_⟩;unfold jx;rw[jK F (B.trans e)];rfl
    have d:=O l;clear l
    have L:tc (jj x.i9) x.fs i=(bt (x.fs.getD (i*2) 0) (-1000000000) 1000000000&&bt (x.fs.getD (i*2+1) 0) (-1000000000) 1000000000):=by unfold tc;rw[a1]
    have u:=O L;clear L;have Q:=O (show∀j,mV x.fs i j=decide (x.fs.getD (i*2) 0=x.fs.getD (j*2) 0/\x.fs.getD (i*2+1) 0=x.fs.getD (j*2+1) 0)from fun j=>rfl);generalize hp0:x.fs.getD (i*2) 0=p0 at*;generalize hp1:x.fs.getD (i*2+1) 0=p1 at*;clear hp0 hp1;obtain⟨m,rfl⟩:∃m:World,m=wr:=⟨_,rfl⟩;have a2:g<m.heap.size:=ab hl Hb.size
    have a3:i<=fc:=by omega
    have E5:=O (TL m (.cells #[p0,p1] 91));have P:=O ((TH m m).alloc (aa _) (.cells #[p0,p1] 91));go_wp2_with fail;clear x0 x1 c1 c5
    go_loopw [33] (fun r wr=>∃j:Nat,j<=i/\r=.int .i64 (j:Int)/\(List.range j).any (mV x.fs i)=false/\wr.heap[m.heap.size]? =some (.cells #[p0,p1] 91 (0,0))/\Below m m wr) (fun r _=>i-(intOf r).toNat)
    case atStart=>exact⟨0,by omega,rfl,rfl,E5,P⟩
    case round=>
     obtain⟨j,hj,rfl,D:HQ _,E6:HQ _,Hb2:HQ _⟩:=hrel;have H:=TK E6;have y0:=(VV E6 0).trans rfl;have y1:=(VV E6 1).trans rfl;by_cases X:j<i
     .obtain⟨b2,o2,e2,a0,z0,z1⟩:=(R.go Hb2).at2 (k:=j) (by omega)
      cases e2;have E:=O (Q j);generalize x.fs.getD (j*2) 0=r0 at*;generalize x.fs.getD (j*2+1) 0=r1 at*
      have y:(p0=r0/\p1=r1)\/ ¬(p0=r0/\p1=r1)/\(((p0==r0)=false)\/(p0=r0/\(p1==r1)=false)):=by
       simp only[ak];omega
      obtain ⟨rfl,rfl⟩|⟨K,hw⟩:=y
      .go_wp2
       go_ret;refine⟨?_,I Hb (gY Hb2)⟩;rw[(d false (by unfold iV;rw[lM X (E.trans (by simp))];simp)).2 rfl];rfl
      .have S:=O K;clear K
       obtain hw|⟨rfl,hw⟩:=hw
       all_goals
        go_wp2
        go_roundw
        case rel=>exact⟨j+1,by omega,by go_num,(lL D).trans (E.trans (by simpa using S.out)),(TJ _ _ _ H).trans E6,gY Hb2⟩
        case measure=>simp[intOf];omega
     .obtain rfl:j=i:=by omega
      have t:=O (I Hb Hb2);cases hq0:bt p0 (-1000000000) 1000000000<;>cases hq1:bt p1 (-1000000000) 1000000000
      all_goals
       have z:=O hq0;have M:=O hq1;clear hq0 hq1
       go_wp2_with(first
        |((with_reducible refine(jc p0 _ _ _).mono ?_);rintro e w2 ⟨q,o:HQ _⟩;rw[z]at q;subst q;clear y0 y1;have y1:=((o.block _ H).trans E6|>fun h=>(VV h 1).trans rfl))
        |((with_reducible refine(jc p1 _ _ _).mono ?_);rintro e w3 ⟨q,C:HQ _⟩;rw[M]at q;subst q))
      .go_ret
       refine⟨?_,I t o⟩;rw[(d false (by unfold iV;rw[u,z];rfl)).2 rfl];rfl
      .go_ret
       refine⟨?_,I t o⟩;rw[(d false (by unfold iV;rw[u,z];rfl)).2 rfl];rfl
      .go_ret
       refine⟨?_,I t (I o C)⟩;rw[(d false (by unfold iV;rw[u,z,M];rfl)).2 rfl];rfl
      .go_roundw
       case rel=>exact⟨j+1,by omega,by go_num,(d true (by unfold iV;rw[u,z,M,D];rfl)).1 rfl,I t (I o C)⟩
       case measure=>simp[intOf];omega
   .obtain rfl:i=n:=by omega
    clear c1 c5;obtain⟨_,c1,_,_,_,c5,_⟩:=(N.go Hb).cells
    go_wp2_with((with_reducible refine(jc _ _ _ _).mono ?_);rintro e w2 ⟨q,B⟩;subst q)
    go_ret;exact⟨by unfold jx;rw[W];rfl,I Hb B⟩
structure mj (D:Nat->Prop) (w:World) (x:gR) (f v s k:iJ):Prop where
 at':iP D w x f v s k
 q:∃(lq:List jT)(lo hi:Nat),qt lq=x.l/\RR (Sh rL (Value.slice s.a s.n s.c).ownBlock) 22 D w s.a s.n s.c lq/\qu lq/\(∀q∈lq,lo<=q.lo/\q.lo<=q.hi/\q.hi<=hi)/\
  IRp (fun b=>D b/\(b<lo\/hi<=b)) w 2 f.a f.n f.c x.fs/\IRp (fun b=>D b/\(b<lo\/hi<=b)) w 2 v.a v.n v.c x.ws/\RR oB 2 (fun b=>D b/\(b<lo\/hi<=b)) w k.a k.n k.c x.cf
def mj.keep{D E:Nat->Prop}{w w':World}{x:gR}{f v s k:iJ}(h:mj D w x f v s k)(c:gN D w w')(a:∀b,D b->E b):mj E w' x f v s k:=by
 obtain⟨i,lo,hi,h1,h2,h3,d,h5,e,g⟩:=h.q;exact⟨h.at'.kept c a,i,lo,hi,h1,h2.kept (BT jX _) c a,h3,d,h5.kept (c.mono (fun b h=>h.1)) (fun b h=>⟨a b h.1,h.2⟩),e.kept (c.mono (fun b h=>h.1)) (fun b h=>⟨a b h.1,h.2⟩),g.kept ky (c.mono (fun b h=>h.1)) (fun b h=>⟨a b h.1,h.2⟩)⟩
def mj.go{D E:Nat->Prop}{w w':World}{x:gR}{f v s k:iJ}(h:mj D w x f v s k)(a:Below w w w')(c:∀b,D b->b<w.heap.size)(d:∀b,D b->E b):mj E w' x f v s k:=
 h.keep ((gE a).mono c) d
def jR(ws:List Int)(i:Nat):Int:=if i=0 then 299999 else ws.getD ((i-1)*2) 0
def jM(ws:List Int)(i:Nat):Bool:=decide (jR ws i<ws.getD (i*2) 0)&&decide (ws.getD (i*2) 0<=2500000)&&bt (ws.getD (i*2+1) 0) 1 100
def VY(i4:Int)(ws:List Int)(n:Nat):Bool:=(List.range n).all (jM ws)&&bt (n:Int) 1 5&&bt i4 0 ((n:Int)-1)
def GH(x:gR)(f v s k:iJ)(g:Nat)(T:TypeId)(w:World)(hg:hU w g T x f v s k)(hf:IR w w 2 v.a v.n v.c x.ws)(hn:v.n<=1000000):
 Calls prog 90 #[U g] w (iZ w (.bool (VY x.i4 x.ws v.n))):=by
 have Hg:=O hg;have Hf:=O hf;clear hg hf;obtain⟨va,n,vc⟩:=v;simp only at*
 show Calls _ _ _ w (iZ w (.bool (VY x.i4 x.ws n)))
 obtain⟨_,_,_,_,_,_,N,_⟩:=Hg.cells;have hl:=Hg.lt;go_enter func90,ntmps90;go_wp2
 go_loopw [3,12] (fun pv iv wr=>∃i:Nat,i<=n/\iv=.int .i64 (i:Int)/\pv=.int .i64 (jR x.ws i)/\(List.range i).all (jM x.ws)=true/\Below w w wr) (fun _ iv _=>n-(intOf iv).toNat)
 case atStart=>exact⟨0,by omega,rfl,rfl,rfl,TH _ _⟩
 case round=>
  obtain⟨i,hi,rfl,rfl,Ho:HQ _,Hb:HQ _⟩:=hrel;clear N;by_cases a2:i<n
  .obtain⟨b1,off,rfl,hlt,x0,x1⟩:=(Hf.go Hb).at2 a2
   have q:∀b,jM x.ws i=b->(b=true->(List.range (i+1)).all (jM x.ws)=true)/\(b=false->VY x.i4 x.ws n=false):=by
    intro b C;refine⟨fun e=>jl Ho (C.trans e),fun e=>?_⟩;unfold VY;rw[jK a2 (C.trans e)];rfl
   have F:jM x.ws i=(decide (jR x.ws i<x.ws.getD (i*2) 0)&&decide (x.ws.getD (i*2) 0<=2500000)&&bt (x.ws.getD (i*2+1) 0) 1 100):=rfl
   have r:jR x.ws (i+1)=x.ws.getD (i*2) 0:=by unfold jR;rw[aj (by omega),cY]
   generalize jR x.ws i=pr at*;generalize hp0:x.ws.getD (i*2) 0=p0 at*;generalize hp1:x.ws.getD (i*2+1) 0=p1 at*;have m:=O q;have D:=O F;have L:=O r;clear q F r hp0 hp1;cases hq:bt p1 1 100<;>by_cases h1:pr<p0<;>by_cases h2:p0<=2500000
   all_goals
    have Q:=O hq;have B:=O h1;have H2:=O h2;clear hq
    go_wp2_with((with_reducible refine(jc p1 _ _ _).mono ?_);rintro e M ⟨j,C⟩;rw[Q]at j;subst j;have a5:wr.heap.size<M.heap.size:=(by(have:=C.size;simp at this;omega));have y0:=(VV ((C.block wr (by simp)).trans (TL wr _)) 0).trans rfl;have X:=O (I (gY (TH _ _)) C);clear C)
   all_goals first
    |(go_ret
      refine⟨?_,(by first|exact I Hb X|exact I Hb (gY (TH _ _)))⟩
      rw[(m false (by rw[D,Q];simp[B.out,H2.out])).2 rfl];rfl)
    |(go_roundw
      case rel=>exact⟨i+1,by omega,by go_num,by rw[L],(m true (by rw[D,Q];simp[B.out,H2.out])).1 rfl,I Hb X⟩
      case measure=>simp[intOf];omega)
  .obtain rfl:i=n:=by omega
   obtain⟨_,_,_,_,c4,_,N,_⟩:=(Hg.go Hb).cells;have hgl:g<wr.heap.size:=ab hl Hb.size;have a4:IntKind.i64.wrap ((i:Int)-1)=(i:Int)-1:=TM _ (by omega);cases h1:bt (i:Int) 1 5
   all_goals
    have B:=O h1;clear h1;go_upto_region 9 with fail
   .refine ic 23 [] [] [(0,true),(1,true),(2,true),(3,true),(4,true),(5,true),(6,false),(7,true),(8,true),(9,true),(10,true),(11,true),(12,true),(13,true),(14,true),(15,true),(16,true),(17,true),(18,true),(19,true),(20,true),(21,true),(22,true)] (by kernel_rfl) (by kernel_rfl) ⟨by simp,by simp,fun _ h=>by cases h⟩ (fun _ _ _ _ _ h=>h) (fun _ _ o _ _ h=>by cases o<;>exact h) ?_
    iterate 6
     refine gZ (v:=?_) ?_ ?_;rotate_left
     .intro y A
      have z4:=(A.cell (p:=⟨g,4,none⟩) hgl).trans c4;have z6:=(A.cell (p:=⟨g,6,none⟩) hgl).trans N;go_simp;rfl
     try simp only[V]
    refine iK (fun x1 R K u=>?_);go_simp;refine(jc (i:Int) 1 5 _).mono ?_;rintro e M ⟨j,z⟩;rw[B]at j;subst j;refine u _ _ z ?_;clear u K;have t:Below wr wr x1:=gJ (k:=1) R;have d:=I t z
    iterate 1
     refine iy (v:=?_) ?_ ?_;rotate_left
     .intro y
      go_simp;rfl
     try simp only[V]
    iterate 13
     refine nh rfl (by rfl) ?_;try simp only[V]
    iterate 2
     refine iy (v:=?_) ?_ ?_;rotate_left
     .intro y
      go_simp;rfl
     try simp only[V]
    refine jV (l:=[]) rfl (fun S E=>?_);go_wp2;go_ret;refine⟨?_,I Hb (I d E)⟩;unfold VY;rw[Ho,B];rfl
   .refine ic 23 [] [] [(0,true),(1,true),(2,true),(3,true),(4,true),(5,true),(6,false),(7,true),(8,true),(9,true),(10,true),(11,true),(12,true),(13,true),(14,true),(15,true),(16,true),(17,true),(18,true),(19,true),(20,false),(21,true),(22,true)] (by kernel_rfl) (by kernel_rfl) ⟨by simp,by simp,fun _ h=>by cases h⟩ (fun _ _ _ _ _ h=>h) (fun _ _ o _ _ h=>by cases o<;>exact h) ?_
    iterate 6
     refine gZ (v:=?_) ?_ ?_;rotate_left
     .intro y A
      have z4:=(A.cell (p:=⟨g,4,none⟩) hgl).trans c4;have z6:=(A.cell (p:=⟨g,6,none⟩) hgl).trans N;go_simp;rfl
     try simp only[V]
    refine iK (fun x1 R K u=>?_);go_simp;refine(jc (i:Int) 1 5 _).mono ?_;rintro e M ⟨j,z⟩;rw[B]at j;subst j;refine u _ _ z ?_;clear u K;have t:Below wr wr x1:=gJ (k:=1) R;have d:=I t z;have k4:=(d.cell (p:=⟨g,4,none⟩) hgl).trans c4;have k6:=(d.cell (p:=⟨g,6,none⟩) hgl).trans N;have H:g<M.heap.size:=ab hgl d.size
    iterate 1
     refine iy (v:=?_) ?_ ?_;rotate_left
     .intro y
      go_simp;rfl
     try simp only[V]
    iterate 12
     refine gZ (v:=?_) ?_ ?_;rotate_left
     .intro y A
      have z4:=(A.cell (p:=⟨g,4,none⟩) H).trans k4;have z6:=(A.cell (p:=⟨g,6,none⟩) H).trans k6;go_simp;rfl
     try simp only[V]
    refine kH rfl (by rfl) (fun x2 a3 K u=>?_);go_simp;refine(jc x.i4 0 ((i:Int)-1) _).mono ?_;rintro e w4 ⟨j,P⟩;subst j;refine u _ _ P ?_;clear u K
    iterate 2
     refine iy (v:=?_) ?_ ?_;rotate_left
     .intro y
      go_simp;rfl
     try simp only[V]
    refine jV (l:=[]) rfl (fun S E=>?_);have a1:Below x2 x2 S:=I P E;have a0:Below M M S:=I a3 a1;have h14:Below wr wr S:=I d a0;have W:=O (show Below w w S from I Hb h14);clear a1 a0 h14 P E a3 d;go_wp2;go_ret;refine⟨?_,W⟩;unfold VY;rw[Ho,B];rfl
