import Derived.Test.YtlnbjinneegciabGreatDoorTAJ
namespace Go.Proofs.YtlnbjinneegciabGreatDoor
set_option linter.all false
set_option maxRecDepth 100000
set_option maxHeartbeats 3200000
open Go.Proofs.Tryz Go.RowKit
structure gR where
 nm:ByteArray
 i9:Int
 pb:Int
 stop:Int
 p9:Int
 fs:List Int
 ws:List Int
 l:List gM
 cf:List jd
structure iJ where
 a:Option Addr
 n:Nat
 c:Nat
def iJ.v(p:iJ):Value:=.slice p.a p.n p.c
def iw(x:gR)(f w s k:iJ):List Value:=[.string x.nm,.int .i64 x.i9,.int .i64 x.pb,.int .i64 x.stop,.int .i64 x.p9,.slice f.a f.n f.c,.slice w.a w.n w.c,.slice s.a s.n s.c,.slice k.a k.n k.c]
structure iP (S:Nat->Prop) (w:World) (x:gR) (f v s k:iJ):Prop where
 fs:IRp S w 2 f.a f.n f.c x.fs
 ws:IRp S w 2 v.a v.n v.c x.ws
 l:RR jE 22 S w s.a s.n s.c x.l
 cf:RR oB 2 S w k.a k.n k.c x.cf
 fn:f.n<=1000000
 wn:v.n<=1000000
 sn:s.n<=1000000
 kn:k.n<=1000000
 fc:f.a=none->f.c=0
 wc:v.a=none->v.c=0
 nm:x.nm.size<=9223372036854775807
def iP.kept{S T:Nat->Prop}{w w':World}{x:gR}{f v s k:iJ}(h:iP S w x f v s k)(a:gN S w w')(c:∀b,S b->T b):iP T w' x f v s k:=
 ⟨h.fs.kept a c,h.ws.kept a c,h.l.kept iD a c,h.cf.kept ky a c,h.fn,h.wn,h.sn,h.kn,h.fc,h.wc,h.nm⟩
def iP.go{w w':World}{x:gR}{f v s k:iJ}(h:iP (fun b=>b<w.heap.size) w x f v s k)(hb:Below w w w'):iP (fun b=>b<w'.heap.size) w' x f v s k:=
 h.kept (gE hb) (fun b h=>eb h hb.size)
def kr(w:World)(g:Nat)(T:TypeId)(x:gR)(f v s k:iJ):Prop:=w.heap[g]? =some (.cells (iw x f v s k).toArray T (0,0))
def kr.cells{w:World}{g:Nat}{T:TypeId}{x:gR}{f v s k:iJ}(h:kr w g T x f v s k):
 w.cell? (J g)=some (.string x.nm)/\w.cell? ⟨g,1,none⟩=some (.int .i64 x.i9)/\w.cell? ⟨g,2,none⟩=some (.int .i64 x.pb)/\w.cell? ⟨g,3,none⟩=some (.int .i64 x.stop)/\w.cell? ⟨g,4,none⟩=some (.int .i64 x.p9)/\
 w.cell? ⟨g,5,none⟩=some (.slice f.a f.n f.c)/\w.cell? ⟨g,6,none⟩=some (.slice v.a v.n v.c)/\w.cell? ⟨g,7,none⟩=some (.slice s.a s.n s.c)/\w.cell? ⟨g,8,none⟩=some (.slice k.a k.n k.c):=by
 unfold kr iw at h;refine⟨?_,?_,?_,?_,?_,?_,?_,?_,?_⟩ <;>simp[World.cell?,h]
def kr.free{w:World}{g:Nat}{T:TypeId}{x:gR}{f v s k:iJ}(h:kr w g T x f v s k)(j:Nat):w.frozen? ⟨g,j,none⟩=false:=by
 unfold kr at h;simp[World.frozen?,h]
def kr.lt{w:World}{g:Nat}{T:TypeId}{x:gR}{f v s k:iJ}(h:kr w g T x f v s k):g<w.heap.size:=TK h
def kr.go{w w':World}{g:Nat}{T:TypeId}{x:gR}{f v s k:iJ}(h:kr w g T x f v s k)(hb:Below w w w'):kr w' g T x f v s k:=(hb.block g h.lt).trans h
def tc(a:Int)(fs:List Int)(i:Nat):Bool:=bt (fs.getD (i*2) 0) (-a) a&&bt (fs.getD (i*2+1) 0) (-a) a
def mV(fs:List Int)(i j:Nat):Bool:=decide (fs.getD (i*2) 0=fs.getD (j*2) 0/\fs.getD (i*2+1) 0=fs.getD (j*2+1) 0)
def iV(a:Int)(fs:List Int)(i:Nat):Bool:=tc a fs i&& !(List.range i).any (mV fs i)
def jj(i9:Int):Int:=if i9=0 then 1000000 else 1000000000
def jx(i9:Int)(fs:List Int)(n:Nat):Bool:=(List.range n).all (iV (jj i9) fs)&&bt (n:Int) 1 5
def IR.at2{N:Nat}{w:World}{a:Option Addr}{n c:Nat}{zs:List Int}(h:IR N w 2 a n c zs){k:Nat}(f:k<n):
 ∃b off,a=some ⟨b,off,none⟩/\b<N/\w.cell? ⟨b,off+k*2,none⟩=some (.int .i64 (zs.getD (k*2) 0))/\w.cell? ⟨b,off+k*2+1,none⟩=some (.int .i64 (zs.getD (k*2+1) 0)):=by
 obtain⟨b,off,e,hb,d⟩:=h.2.2 (by omega);exact⟨b,off,e,hb,d (k*2) (by omega),d (k*2+1) (by omega)⟩
def jK{f:Nat->Bool}{n k:Nat}(b:k<n)(h:f k=false):(List.range n).all f=false:=by
 rw[dw];intro a;have:=an.1 a k (aJ.2 b);rw[h]at this;cases this
def jl{f:Nat->Bool}{k:Nat}(h:(List.range k).all f=true)(a:f k=true):(List.range (k+1)).all f=true:=by
 rw[bV,er,h];simp[a]
def Et(x:gR)(f v s k:iJ)(g:Nat)(T:TypeId)(w:World)(hg:kr w g T x f v s k)(hf:IR w w 2 f.a f.n f.c x.fs)(hn:f.n<=1000000):
 Calls prog 67 #[U g] w (iZ w (.bool (jx x.i9 x.fs f.n))):=by
 have M:=O hg;have X:=O hf;clear hg hf;obtain⟨fa,n,fc⟩:=f;simp only at*
 show Calls _ _ _ w (iZ w (.bool (jx x.i9 x.fs n)))
 obtain⟨_,c1,_,_,_,c5,_⟩:=M.cells;have hl:=M.lt
 have hm:∃p:Int,jj x.i9=p/\0<=p/\p<=1000000000/\((x.i9=0/\p=1000000)\/((x.i9==0)=false/\p=1000000000)):=by
  by_cases h0:x.i9=0
  .exact⟨1000000,by unfold jj;rw[aq h0],by omega,by omega,VR ⟨h0,rfl⟩⟩
  .exact⟨1000000000,by unfold jj;rw[aj h0],by omega,by omega,VS ⟨by simpa using h0,rfl⟩⟩
 obtain⟨p,a1:HQ _,hm1,hm2,hmm⟩:=hm
 obtain ⟨hd,rfl⟩|⟨hd,rfl⟩:=hmm
 .rw[hd]at c1
  have Hd:=O hd;clear hd;go_enter func67,ntmps67;go_wp2
  go_loopw [20] (fun r wr=>∃i:Nat,i<=n/\r=.int .i64 (i:Int)/\(List.range i).all (iV (jj x.i9) x.fs)=true/\Below w w wr) (fun r _=>n-(intOf r).toNat)
  case atStart=>exact⟨0,by omega,rfl,rfl,TH _ _⟩
  case round=>
   obtain⟨i,hi,rfl,S:HQ _,Hb:HQ _⟩:=hrel;by_cases E:i<n
   .obtain⟨b1,off,rfl,hlt,x0,x1⟩:=(X.go Hb).at2 E
    have A:=X.go Hb;have a4:=A.2.1;have Q:=O A;clear A;clear c1 c5;obtain⟨_,c1,_,_,_,c5,_⟩:=(M.go Hb).cells
    have l:∀b,iV (jj x.i9) x.fs i=b->(b=true->(List.range (i+1)).all (iV (jj x.i9) x.fs)=true)/\(b=false->jx x.i9 x.fs n=false):=by
     intro b hb;refine⟨fun e=>jl S (hb.trans e),fun e=>?_⟩;unfold jx;rw[jK E (hb.trans e)];rfl
    have d:=O l;clear l
    have K:tc (jj x.i9) x.fs i=(bt (x.fs.getD (i*2) 0) (-1000000) 1000000&&bt (x.fs.getD (i*2+1) 0) (-1000000) 1000000):=by unfold tc;rw[a1]
    have u:=O K;clear K;have P:=O (show∀j,mV x.fs i j=decide (x.fs.getD (i*2) 0=x.fs.getD (j*2) 0/\x.fs.getD (i*2+1) 0=x.fs.getD (j*2+1) 0)from fun j=>rfl);generalize hp0:x.fs.getD (i*2) 0=p0 at*;generalize hp1:x.fs.getD (i*2+1) 0=p1 at*;clear hp0 hp1;obtain⟨m,rfl⟩:∃m:World,m=wr:=⟨_,rfl⟩;have a2:g<m.heap.size:=eb hl Hb.size
    have a3:i<=fc:=by omega
    have E5:=O (TL m (.cells #[p0,p1] 77));have N:=O ((TH m m).alloc (ag _) (.cells #[p0,p1] 77));go_wp2_with fail;clear x0 x1 c1 c5
    go_loopw [33] (fun r wr=>∃j:Nat,j<=i/\r=.int .i64 (j:Int)/\(List.range j).any (mV x.fs i)=false/\wr.heap[m.heap.size]? =some (.cells #[p0,p1] 77 (0,0))/\Below m m wr) (fun r _=>i-(intOf r).toNat)
    case atStart=>exact⟨0,by omega,rfl,rfl,E5,N⟩
    case round=>
     obtain⟨j,hj,rfl,C:HQ _,E6:HQ _,Hb2:HQ _⟩:=hrel;have F:=TK E6;have y0:=(VV E6 0).trans rfl;have y1:=(VV E6 1).trans rfl;by_cases W:j<i
     .obtain⟨b2,o2,e2,a0,z0,z1⟩:=(Q.go Hb2).at2 (k:=j) (by omega)
      cases e2;have D:=O (P j);generalize x.fs.getD (j*2) 0=r0 at*;generalize x.fs.getD (j*2+1) 0=r1 at*
      have y:(p0=r0/\p1=r1)\/ ¬(p0=r0/\p1=r1)/\(((p0==r0)=false)\/(p0=r0/\(p1==r1)=false)):=by
       simp only[ak];omega
      obtain ⟨rfl,rfl⟩|⟨H,hw⟩:=y
      .go_wp2
       go_ret;refine⟨?_,I Hb (gY Hb2)⟩;rw[(d false (by unfold iV;rw[lM W (D.trans (by simp))];simp)).2 rfl];rfl
      .have R:=O H;clear H
       obtain hw|⟨rfl,hw⟩:=hw
       all_goals
        go_wp2
        go_roundw
        case rel=>exact⟨j+1,by omega,by go_num,(lL C).trans (D.trans (by simpa using R.out)),(TJ _ _ _ F).trans E6,gY Hb2⟩
        case measure=>simp[intOf];omega
     .obtain rfl:j=i:=by omega
      have t:=O (I Hb Hb2);cases hq0:bt p0 (-1000000) 1000000<;>cases hq1:bt p1 (-1000000) 1000000
      all_goals
       have z:=O hq0;have L:=O hq1;clear hq0 hq1
       go_wp2_with(first
        |((with_reducible refine(jc p0 _ _ _).mono ?_);rintro e w2 ⟨q,o:HQ _⟩;rw[z]at q;subst q;clear y0 y1;have y1:=((o.block _ F).trans E6|>fun h=>(VV h 1).trans rfl))
        |((with_reducible refine(jc p1 _ _ _).mono ?_);rintro e w3 ⟨q,B:HQ _⟩;rw[L]at q;subst q))
      .go_ret
       refine⟨?_,I t o⟩;rw[(d false (by unfold iV;rw[u,z];rfl)).2 rfl];rfl
      .go_ret
       refine⟨?_,I t o⟩;rw[(d false (by unfold iV;rw[u,z];rfl)).2 rfl];rfl
      .go_ret
       refine⟨?_,I t (I o B)⟩;rw[(d false (by unfold iV;rw[u,z,L];rfl)).2 rfl];rfl
      .go_roundw
       case rel=>exact⟨j+1,by omega,by go_num,(d true (by unfold iV;rw[u,z,L,C];rfl)).1 rfl,I t (I o B)⟩
       case measure=>simp[intOf];omega
   .obtain rfl:i=n:=by omega
    clear c1 c5;obtain⟨_,c1,_,_,_,c5,_⟩:=(M.go Hb).cells
    go_wp2_with((with_reducible refine(jc _ _ _ _).mono ?_);rintro e w2 ⟨q,hb⟩;subst q)
    go_ret;exact⟨by unfold jx;rw[S];rfl,I Hb hb⟩
 .go_enter func67,ntmps67
  go_wp2
  go_loopw [20] (fun r wr=>∃i:Nat,i<=n/\r=.int .i64 (i:Int)/\(List.range i).all (iV (jj x.i9) x.fs)=true/\Below w w wr) (fun r _=>n-(intOf r).toNat)
  case atStart=>exact⟨0,by omega,rfl,rfl,TH _ _⟩
  case round=>
   obtain⟨i,hi,rfl,S:HQ _,Hb:HQ _⟩:=hrel;by_cases E:i<n
   .obtain⟨b1,off,rfl,hlt,x0,x1⟩:=(X.go Hb).at2 E
    have A:=X.go Hb;have a4:=A.2.1;have Q:=O A;clear A;clear c1 c5;obtain⟨_,c1,_,_,_,c5,_⟩:=(M.go Hb).cells
    have l:∀b,iV (jj x.i9) x.fs i=b->(b=true->(List.range (i+1)).all (iV (jj x.i9) x.fs)=true)/\(b=false->jx x.i9 x.fs n=false):=by
     intro b hb;refine⟨fun e=>jl S (hb.trans e),fun e=>?_⟩;unfold jx;rw[jK E (hb.trans e)];rfl
    have d:=O l;clear l
    have K:tc (jj x.i9) x.fs i=(bt (x.fs.getD (i*2) 0) (-1000000000) 1000000000&&bt (x.fs.getD (i*2+1) 0) (-1000000000) 1000000000):=by unfold tc;rw[a1]
    have u:=O K;clear K;have P:=O (show∀j,mV x.fs i j=decide (x.fs.getD (i*2) 0=x.fs.getD (j*2) 0/\x.fs.getD (i*2+1) 0=x.fs.getD (j*2+1) 0)from fun j=>rfl);generalize hp0:x.fs.getD (i*2) 0=p0 at*;generalize hp1:x.fs.getD (i*2+1) 0=p1 at*;clear hp0 hp1;obtain⟨m,rfl⟩:∃m:World,m=wr:=⟨_,rfl⟩;have a2:g<m.heap.size:=eb hl Hb.size
    have a3:i<=fc:=by omega
    have E5:=O (TL m (.cells #[p0,p1] 77));have N:=O ((TH m m).alloc (ag _) (.cells #[p0,p1] 77));go_wp2_with fail;clear x0 x1 c1 c5
    go_loopw [33] (fun r wr=>∃j:Nat,j<=i/\r=.int .i64 (j:Int)/\(List.range j).any (mV x.fs i)=false/\wr.heap[m.heap.size]? =some (.cells #[p0,p1] 77 (0,0))/\Below m m wr) (fun r _=>i-(intOf r).toNat)
    case atStart=>exact⟨0,by omega,rfl,rfl,E5,N⟩
    case round=>
     obtain⟨j,hj,rfl,C:HQ _,E6:HQ _,Hb2:HQ _⟩:=hrel;have F:=TK E6;have y0:=(VV E6 0).trans rfl;have y1:=(VV E6 1).trans rfl;by_cases W:j<i
     .obtain⟨b2,o2,e2,a0,z0,z1⟩:=(Q.go Hb2).at2 (k:=j) (by omega)
      cases e2;have D:=O (P j);generalize x.fs.getD (j*2) 0=r0 at*;generalize x.fs.getD (j*2+1) 0=r1 at*
      have y:(p0=r0/\p1=r1)\/ ¬(p0=r0/\p1=r1)/\(((p0==r0)=false)\/(p0=r0/\(p1==r1)=false)):=by
       simp only[ak];omega
      obtain ⟨rfl,rfl⟩|⟨H,hw⟩:=y
      .go_wp2
       go_ret;refine⟨?_,I Hb (gY Hb2)⟩;rw[(d false (by unfold iV;rw[lM W (D.trans (by simp))];simp)).2 rfl];rfl
      .have R:=O H;clear H
       obtain hw|⟨rfl,hw⟩:=hw
       all_goals
        go_wp2
        go_roundw
        case rel=>exact⟨j+1,by omega,by go_num,(lL C).trans (D.trans (by simpa using R.out)),(TJ _ _ _ F).trans E6,gY Hb2⟩
        case measure=>simp[intOf];omega
     .obtain rfl:j=i:=by omega
      have t:=O (I Hb Hb2);cases hq0:bt p0 (-1000000000) 1000000000<;>cases hq1:bt p1 (-1000000000) 1000000000
      all_goals
       have z:=O hq0;have L:=O hq1;clear hq0 hq1
       go_wp2_with(first
        |((with_reducible refine(jc p0 _ _ _).mono ?_);rintro e w2 ⟨q,o:HQ _⟩;rw[z]at q;subst q;clear y0 y1;have y1:=((o.block _ F).trans E6|>fun h=>(VV h 1).trans rfl))
        |((with_reducible refine(jc p1 _ _ _).mono ?_);rintro e w3 ⟨q,B:HQ _⟩;rw[L]at q;subst q))
      .go_ret
       refine⟨?_,I t o⟩;rw[(d false (by unfold iV;rw[u,z];rfl)).2 rfl];rfl
      .go_ret
       refine⟨?_,I t o⟩;rw[(d false (by unfold iV;rw[u,z];rfl)).2 rfl];rfl
      .go_ret
       refine⟨?_,I t (I o B)⟩;rw[(d false (by unfold iV;rw[u,z,L];rfl)).2 rfl];rfl
      .go_roundw
       case rel=>exact⟨j+1,by omega,by go_num,(d true (by unfold iV;rw[u,z,L,C];rfl)).1 rfl,I t (I o B)⟩
       case measure=>simp[intOf];omega
   .obtain rfl:i=n:=by omega
    clear c1 c5;obtain⟨_,c1,_,_,_,c5,_⟩:=(M.go Hb).cells
    go_wp2_with((with_reducible refine(jc _ _ _ _).mono ?_);rintro e w2 ⟨q,hb⟩;subst q)
    go_ret;exact⟨by unfold jx;rw[S];rfl,I Hb hb⟩
structure mj (D:Nat->Prop) (w:World) (x:gR) (f v s k:iJ):Prop where
 at':iP D w x f v s k
 q:∃(lq:List jT)(lo hi:Nat),qt lq=x.l/\RR (Sh rL (Value.slice s.a s.n s.c).ownBlock) 22 D w s.a s.n s.c lq/\qu lq/\(∀q∈lq,lo<=q.lo/\q.lo<=q.hi/\q.hi<=hi)/\
  IRp (fun b=>D b/\(b<lo\/hi<=b)) w 2 f.a f.n f.c x.fs/\IRp (fun b=>D b/\(b<lo\/hi<=b)) w 2 v.a v.n v.c x.ws/\RR oB 2 (fun b=>D b/\(b<lo\/hi<=b)) w k.a k.n k.c x.cf
def mj.keep{D E:Nat->Prop}{w w':World}{x:gR}{f v s k:iJ}(h:mj D w x f v s k)(c:gN D w w')(a:∀b,D b->E b):mj E w' x f v s k:=by
 obtain⟨i,lo,hi,h1,h2,h3,d,h5,e,g⟩:=h.q;exact⟨h.at'.kept c a,i,lo,hi,h1,h2.kept (BT jX _) c a,h3,d,h5.kept (c.mono (fun b h=>h.1)) (fun b h=>⟨a b h.1,h.2⟩),e.kept (c.mono (fun b h=>h.1)) (fun b h=>⟨a b h.1,h.2⟩),g.kept ky (c.mono (fun b h=>h.1)) (fun b h=>⟨a b h.1,h.2⟩)⟩
def mj.go{D E:Nat->Prop}{w w':World}{x:gR}{f v s k:iJ}(h:mj D w x f v s k)(hb:Below w w w')(a:∀b,D b->b<w.heap.size)(c:∀b,D b->E b):mj E w' x f v s k:=
 h.keep ((gE hb).mono a) c
def jR(ws:List Int)(i:Nat):Int:=if i=0 then 299999 else ws.getD ((i-1)*2) 0
def jM(ws:List Int)(i:Nat):Bool:=decide (jR ws i<ws.getD (i*2) 0)&&decide (ws.getD (i*2) 0<=2500000)&&bt (ws.getD (i*2+1) 0) 1 100
def VY(p9:Int)(ws:List Int)(n:Nat):Bool:=(List.range n).all (jM ws)&&bt (n:Int) 1 5&&bt p9 0 ((n:Int)-1)
def GH(x:gR)(f v s k:iJ)(g:Nat)(T:TypeId)(w:World)(hg:kr w g T x f v s k)(hf:IR w w 2 v.a v.n v.c x.ws)(hn:v.n<=1000000):
 Calls prog 68 #[U g] w (iZ w (.bool (VY x.p9 x.ws v.n))):=by
 have Hg:=O hg;have Hf:=O hf;clear hg hf;obtain⟨va,n,vc⟩:=v;simp only at*
 show Calls _ _ _ w (iZ w (.bool (VY x.p9 x.ws n)))
 obtain⟨_,_,_,_,_,_,M,_⟩:=Hg.cells;have hl:=Hg.lt;go_enter func68,ntmps68;go_wp2
 go_loopw [3,12] (fun pv iv wr=>∃i:Nat,i<=n/\iv=.int .i64 (i:Int)/\pv=.int .i64 (jR x.ws i)/\(List.range i).all (jM x.ws)=true/\Below w w wr) (fun _ iv _=>n-(intOf iv).toNat)
 case atStart=>exact⟨0,by omega,rfl,rfl,rfl,TH _ _⟩
 case round=>
  obtain⟨i,hi,rfl,rfl,Ho:HQ _,Hb:HQ _⟩:=hrel;clear M;by_cases a1:i<n
  .obtain⟨b1,off,rfl,hlt,x0,x1⟩:=(Hf.go Hb).at2 a1
   have q:∀b,jM x.ws i=b->(b=true->(List.range (i+1)).all (jM x.ws)=true)/\(b=false->VY x.p9 x.ws n=false):=by
    intro b hb;refine⟨fun e=>jl Ho (hb.trans e),fun e=>?_⟩;unfold VY;rw[jK a1 (hb.trans e)];rfl
   have E:jM x.ws i=(decide (jR x.ws i<x.ws.getD (i*2) 0)&&decide (x.ws.getD (i*2) 0<=2500000)&&bt (x.ws.getD (i*2+1) 0) 1 100):=rfl
   have r:jR x.ws (i+1)=x.ws.getD (i*2) 0:=by unfold jR;rw[aj (by omega),cY]
   generalize jR x.ws i=pr at*;generalize hp0:x.ws.getD (i*2) 0=p0 at*;generalize hp1:x.ws.getD (i*2+1) 0=p1 at*;have m:=O q;have C:=O E;have H:=O r;clear q E r hp0 hp1;cases hq:bt p1 1 100<;>by_cases h1:pr<p0<;>by_cases h2:p0<=2500000
   all_goals
    have Q:=O hq;have B:=O h1;have H2:=O h2;clear hq
    go_wp2_with((with_reducible refine(jc p1 _ _ _).mono ?_);rintro e L ⟨j,hb⟩;rw[Q]at j;subst j;have a4:wr.heap.size<L.heap.size:=(by(have:=hb.size;simp at this;omega));have y0:=(VV ((hb.block wr (by simp)).trans (TL wr _)) 0).trans rfl;have W:=O (I (gY (TH _ _)) hb);clear hb)
   all_goals first
    |(go_ret
      refine⟨?_,(by first|exact I Hb W|exact I Hb (gY (TH _ _)))⟩
      rw[(m false (by rw[C,Q];simp[B.out,H2.out])).2 rfl];rfl)
    |(go_roundw
      case rel=>exact⟨i+1,by omega,by go_num,by rw[H],(m true (by rw[C,Q];simp[B.out,H2.out])).1 rfl,I Hb W⟩
      case measure=>simp[intOf];omega)
  .obtain rfl:i=n:=by omega
   obtain⟨_,_,_,_,c4,_,M,_⟩:=(Hg.go Hb).cells;have hgl:g<wr.heap.size:=eb hl Hb.size;have a3:IntKind.i64.wrap ((i:Int)-1)=(i:Int)-1:=TM _ (by omega);cases h1:bt (i:Int) 1 5
   all_goals
    have B:=O h1;clear h1;go_upto_region 9 with fail
   .refine ic 23 [] [] [(0,true),(1,true),(2,true),(3,true),(4,true),(5,true),(6,false),(7,true),(8,true),(9,true),(10,true),(11,true),(12,true),(13,true),(14,true),(15,true),(16,true),(17,true),(18,true),(19,true),(20,true),(21,true),(22,true)] (by kernel_rfl) (by kernel_rfl) ⟨by simp,by simp,fun _ h=>by cases h⟩ (fun _ _ _ _ _ h=>h) (fun _ _ o _ _ h=>by cases o<;>exact h) ?_
    iterate 6
     refine gZ (v:=?_) ?_ ?_;rotate_left
     .intro y A
      have z4:=(A.cell (p:=⟨g,4,none⟩) hgl).trans c4;have z6:=(A.cell (p:=⟨g,6,none⟩) hgl).trans M;go_simp;rfl
     try simp only[V]
    refine iK (fun x1 P K u=>?_);go_simp;refine(jc (i:Int) 1 5 _).mono ?_;rintro e L ⟨j,z⟩;rw[B]at j;subst j;refine u _ _ z ?_;clear u K;have t:Below wr wr x1:=gJ (k:=1) P;have d:=I t z
    iterate 1
     refine iy (v:=?_) ?_ ?_;rotate_left
     .intro y
      go_simp;rfl
     try simp only[V]
    iterate 13
     refine nh rfl (by rfl) ?_;try simp only[V]
    iterate 2
     refine iy (v:=?_) ?_ ?_;rotate_left
     .intro y
      go_simp;rfl
     try simp only[V]
    refine jV (l:=[]) rfl (fun R D=>?_);go_wp2;go_ret;refine⟨?_,I Hb (I d D)⟩;unfold VY;rw[Ho,B];rfl
   .refine ic 23 [] [] [(0,true),(1,true),(2,true),(3,true),(4,true),(5,true),(6,false),(7,true),(8,true),(9,true),(10,true),(11,true),(12,true),(13,true),(14,true),(15,true),(16,true),(17,true),(18,true),(19,true),(20,false),(21,true),(22,true)] (by kernel_rfl) (by kernel_rfl) ⟨by simp,by simp,fun _ h=>by cases h⟩ (fun _ _ _ _ _ h=>h) (fun _ _ o _ _ h=>by cases o<;>exact h) ?_
    iterate 6
     refine gZ (v:=?_) ?_ ?_;rotate_left
     .intro y A
      have z4:=(A.cell (p:=⟨g,4,none⟩) hgl).trans c4;have z6:=(A.cell (p:=⟨g,6,none⟩) hgl).trans M;go_simp;rfl
     try simp only[V]
    refine iK (fun x1 P K u=>?_);go_simp;refine(jc (i:Int) 1 5 _).mono ?_;rintro e L ⟨j,z⟩;rw[B]at j;subst j;refine u _ _ z ?_;clear u K;have t:Below wr wr x1:=gJ (k:=1) P;have d:=I t z;have k4:=(d.cell (p:=⟨g,4,none⟩) hgl).trans c4;have k6:=(d.cell (p:=⟨g,6,none⟩) hgl).trans M;have F:g<L.heap.size:=eb hgl d.size
    iterate 1
     refine iy (v:=?_) ?_ ?_;rotate_left
     .intro y
      go_simp;rfl
     try simp only[V]
    iterate 12
     refine gZ (v:=?_) ?_ ?_;rotate_left
     .intro y A
      have z4:=(A.cell (p:=⟨g,4,none⟩) F).trans k4;have z6:=(A.cell (p:=⟨g,6,none⟩) F).trans k6;go_simp;rfl
     try simp only[V]
    refine kH rfl (by rfl) (fun x2 a2 K u=>?_);go_simp;refine(jc x.p9 0 ((i:Int)-1) _).mono ?_;rintro e w4 ⟨j,N⟩;subst j;refine u _ _ N ?_;clear u K
    iterate 2
     refine iy (v:=?_) ?_ ?_;rotate_left
     .intro y
      go_simp;rfl
     try simp only[V]
    refine jV (l:=[]) rfl (fun R D=>?_);have a0:Below x2 x2 R:=I N D;have X:Below L L R:=I a2 a0;have h14:Below wr wr R:=I d X;have S:=O (show Below w w R from I Hb h14);clear a0 X h14 N D a2 d;go_wp2;go_ret;refine⟨?_,S⟩;unfold VY;rw[Ho,B];rfl
abbrev ry(x:gR)(f v s k:iJ):Value:=.agg #[x.nm,x.i9,x.pb,x.stop,x.p9,Z f.a f.n f.c,Z v.a v.n v.c,Z s.a s.n s.c,Z k.a k.n k.c]
def qX(x:gR)(f v s k:iJ)(w:World)(hf:IR w w 2 f.a f.n f.c x.fs)(hn:f.n<=1000000):
 Calls prog 53 #[ry x f v s k] w (iZ w (.bool (jx x.i9 x.fs f.n))):=by
 have Hf:=O hf;clear hf;obtain⟨fa,n,fc⟩:=f;simp only at*
 show Calls _ _ _ w (iZ w (.bool (jx x.i9 x.fs n)))
 have hm:∃m:Int,jj x.i9=m/\0<=m/\m<=1000000000/\((x.i9=0/\m=1000000)\/((x.i9==0)=false/\m=1000000000)):=by
  by_cases h0:x.i9=0
  .exact⟨1000000,by unfold jj;rw[aq h0],by omega,by omega,VR ⟨h0,rfl⟩⟩
  .exact⟨1000000000,by unfold jj;rw[aj h0],by omega,by omega,VS ⟨by simpa using h0,rfl⟩⟩
 obtain⟨m,a8,b4,b5,a9⟩:=hm;have a7:=O a8;clear a8;have W:=O (show kr (w.alloc (.cells (iw x ⟨fa,n,fc⟩ v s k).toArray 37)) w 37 x ⟨fa,n,fc⟩ v s k from TL w _);have T:=O ((TH w w).alloc (ag _) (.cells (iw x ⟨fa,n,fc⟩ v s k).toArray 37));unfold ry
 obtain ⟨hd,rfl⟩|⟨hd,rfl⟩:=a9
 .have Hd:=O hd;clear hd
  go_enter func53,ntmps53;go_upto_region 1 with fail;refine gI (fun wx=>kr wx w 37 x ⟨fa,n,fc⟩ v s k/\Below w w wx) ⟨W,T⟩ ?_;clear W T;rintro w1 ⟨D,hb⟩;have hl:=D.lt;obtain⟨_,c1,_,_,_,c5,_⟩:=D.cells;have Q:=O D;have a1:=O hb;clear D hb;rw[Hd]at c1;go_wp2
  go_loopw [4] (fun q wr=>∃i:Nat,i<=n/\q=.int .i64 (i:Int)/\(List.range i).all (iV (jj x.i9) x.fs)=true/\Below w1 w1 wr) (fun q _=>n-(intOf q).toNat)
  case atStart=>exact⟨0,by omega,rfl,rfl,TH _ _⟩
  case round=>
   obtain⟨i,hi,rfl,ho,hb⟩:=hrel;have Ho:=O ho;have y:=O hb;have g:=O (I a1 hb);clear ho hb c1 c5;obtain⟨_,_,_,_,_,c5,_⟩:=(Q.go y).cells;have hgl:w.heap.size<wr.heap.size:=eb hl y.size;by_cases B:i<n
   .obtain⟨b1,off,rfl,hlt,S,x1⟩:=(Hf.go g).at2 B
    have A:=Hf.go g;have b0:=A.2.1;have H:=O A;clear A
    have l:∀b,iV (jj x.i9) x.fs i=b->(b=true->(List.range (i+1)).all (iV (jj x.i9) x.fs)=true)/\(b=false->jx x.i9 x.fs n=false):=by
     intro b hb;refine⟨fun e=>jl Ho (hb.trans e),fun e=>?_⟩;unfold jx;rw[jK B (hb.trans e)];rfl
    have d:=O l;clear l
    have P:tc (jj x.i9) x.fs i=(bt (x.fs.getD (i*2) 0) (-1000000) 1000000&&bt (x.fs.getD (i*2+1) 0) (-1000000) 1000000):=by unfold tc;rw[a7]
    have t:=O P;clear P;have a2:=O (show∀j,mV x.fs i j=decide (x.fs.getD (i*2) 0=x.fs.getD (j*2) 0/\x.fs.getD (i*2+1) 0=x.fs.getD (j*2+1) 0)from fun j=>rfl);generalize hp0:x.fs.getD (i*2) 0=p0 at*;generalize hp1:x.fs.getD (i*2+1) 0=p1 at*;have X:=O hp0;have a0:=O hp1;clear hp0 hp1;cases hq0:bt p0 (-1000000) 1000000<;>cases hq1:bt p1 (-1000000) 1000000
    all_goals
     have z:=O hq0;have R:=O hq1;clear hq0 hq1
     go_wp2_with(first
      |((with_reducible refine(ix p0 _ _ _).mono ?_);rintro e w2 ⟨o,hb⟩;rw[z]at o;subst o;clear c5;have c5:=(Q.go (I y hb)).cells.2.2.2.2.2.1;replace x1:=(hb.cell (p:=⟨b1,off+i*2+1,none⟩) hlt).trans x1;have r:=O hb;clear hb)
      |((with_reducible refine(ix p1 _ _ _).mono ?_);rintro e w3 ⟨o,hb⟩;rw[R]at o;subst o;have E:=O hb;clear hb))
    .go_ret
     refine⟨?_,I g r⟩;rw[(d false (by unfold iV;rw[t,z];rfl)).2 rfl];rfl
    .go_ret
     refine⟨?_,I g r⟩;rw[(d false (by unfold iV;rw[t,z];rfl)).2 rfl];rfl
    .go_ret
     refine⟨?_,I g (I r E)⟩;rw[(d false (by unfold iV;rw[t,z,R];rfl)).2 rfl];rfl
    .obtain⟨wo,rfl⟩:∃wo:World,wo=w3:=⟨_,rfl⟩
     have C:=O (I r E);clear S x1 c5
     go_loopw [5] (fun q wq=>∃j:Nat,j<=i/\q=.int .i64 (j:Int)/\(List.range j).any (mV x.fs i)=false/\Below wr wr wq) (fun q _=>i-(intOf q).toNat)
     case atStart=>exact⟨0,by omega,rfl,rfl,C⟩
     case round=>
      obtain⟨j,hj,rfl,M,L⟩:=hrel;have F:=O M;have h:=O L;clear M L;by_cases a4:j<i
      .obtain⟨b3,o3,e3,a6,S,x1⟩:=(H.go h).at2 B
       cases e3;obtain⟨b2,o2,e2,a5,z0,z1⟩:=(H.go h).at2 (k:=j) (by omega);cases e2;obtain⟨_,_,_,_,_,c5,_⟩:=(Q.go (I y h)).cells;have K:=O (a2 j);rw[X]at S;rw[a0]at x1;generalize x.fs.getD (j*2) 0=r0 at*;generalize x.fs.getD (j*2+1) 0=r1 at*
       have u:(p0=r0/\p1=r1)\/ ¬(p0=r0/\p1=r1)/\(((p0==r0)=false)\/(p0=r0/\(p1==r1)=false)):=by
        simp only[ak];omega
       obtain ⟨rfl,rfl⟩|⟨N,hw⟩:=u
       .go_wp2_with fail
        go_quiet (fail)
        go_wp2;go_ret;refine⟨?_,I g (gV h _)⟩;rw[(d false (by unfold iV;rw[lM a4 (K.trans (by simp))];simp)).2 rfl];rfl
       .have a3:=O N;clear N
        obtain hw|⟨rfl,hw⟩:=hw
        all_goals
         go_wp2_with fail
         go_quiet (fail)
         go_wp2
         go_roundw
         case rel=>exact⟨j+1,by omega,by go_num,(lL F).trans (K.trans (by simpa using a3.out)),gV h _⟩
         case measure=>simp[intOf];omega
      .obtain rfl:j=i:=by omega
       go_wp2
       go_roundw
       case rel=>exact⟨j+1,by omega,by go_num,(d true (by unfold iV;rw[t,z,R,F];rfl)).1 rfl,I y h⟩
       case measure=>simp[intOf];omega
   .obtain rfl:i=n:=by omega
    go_wp2_with((with_reducible refine(ix _ _ _ _).mono ?_);rintro e w2 ⟨o,hb⟩;subst o)
    go_ret;exact⟨by unfold jx;rw[Ho];rfl,I g hb⟩
 .skip
  go_enter func53,ntmps53;go_upto_region 1 with fail;refine gI (fun wx=>kr wx w 37 x ⟨fa,n,fc⟩ v s k/\Below w w wx) ⟨W,T⟩ ?_;clear W T;rintro w1 ⟨D,hb⟩;have hl:=D.lt;obtain⟨_,c1,_,_,_,c5,_⟩:=D.cells;have Q:=O D;have a1:=O hb;clear D hb;skip;go_wp2
  go_loopw [4] (fun q wr=>∃i:Nat,i<=n/\q=.int .i64 (i:Int)/\(List.range i).all (iV (jj x.i9) x.fs)=true/\Below w1 w1 wr) (fun q _=>n-(intOf q).toNat)
  case atStart=>exact⟨0,by omega,rfl,rfl,TH _ _⟩
  case round=>
   obtain⟨i,hi,rfl,ho,hb⟩:=hrel;have Ho:=O ho;have y:=O hb;have g:=O (I a1 hb);clear ho hb c1 c5;obtain⟨_,_,_,_,_,c5,_⟩:=(Q.go y).cells;have hgl:w.heap.size<wr.heap.size:=eb hl y.size;by_cases B:i<n
   .obtain⟨b1,off,rfl,hlt,S,x1⟩:=(Hf.go g).at2 B
    have A:=Hf.go g;have b0:=A.2.1;have H:=O A;clear A
    have l:∀b,iV (jj x.i9) x.fs i=b->(b=true->(List.range (i+1)).all (iV (jj x.i9) x.fs)=true)/\(b=false->jx x.i9 x.fs n=false):=by
     intro b hb;refine⟨fun e=>jl Ho (hb.trans e),fun e=>?_⟩;unfold jx;rw[jK B (hb.trans e)];rfl
    have d:=O l;clear l
    have P:tc (jj x.i9) x.fs i=(bt (x.fs.getD (i*2) 0) (-1000000000) 1000000000&&bt (x.fs.getD (i*2+1) 0) (-1000000000) 1000000000):=by unfold tc;rw[a7]
    have t:=O P;clear P;have a2:=O (show∀j,mV x.fs i j=decide (x.fs.getD (i*2) 0=x.fs.getD (j*2) 0/\x.fs.getD (i*2+1) 0=x.fs.getD (j*2+1) 0)from fun j=>rfl);generalize hp0:x.fs.getD (i*2) 0=p0 at*;generalize hp1:x.fs.getD (i*2+1) 0=p1 at*;have X:=O hp0;have a0:=O hp1;clear hp0 hp1;cases hq0:bt p0 (-1000000000) 1000000000<;>cases hq1:bt p1 (-1000000000) 1000000000
    all_goals
     have z:=O hq0;have R:=O hq1;clear hq0 hq1
     go_wp2_with(first
      |((with_reducible refine(ix p0 _ _ _).mono ?_);rintro e w2 ⟨o,hb⟩;rw[z]at o;subst o;clear c5;have c5:=(Q.go (I y hb)).cells.2.2.2.2.2.1;replace x1:=(hb.cell (p:=⟨b1,off+i*2+1,none⟩) hlt).trans x1;have r:=O hb;clear hb)
      |((with_reducible refine(ix p1 _ _ _).mono ?_);rintro e w3 ⟨o,hb⟩;rw[R]at o;subst o;have E:=O hb;clear hb))
    .go_ret
     refine⟨?_,I g r⟩;rw[(d false (by unfold iV;rw[t,z];rfl)).2 rfl];rfl
    .go_ret
     refine⟨?_,I g r⟩;rw[(d false (by unfold iV;rw[t,z];rfl)).2 rfl];rfl
    .go_ret
     refine⟨?_,I g (I r E)⟩;rw[(d false (by unfold iV;rw[t,z,R];rfl)).2 rfl];rfl
    .obtain⟨wo,rfl⟩:∃wo:World,wo=w3:=⟨_,rfl⟩
     have C:=O (I r E);clear S x1 c5
     go_loopw [5] (fun q wq=>∃j:Nat,j<=i/\q=.int .i64 (j:Int)/\(List.range j).any (mV x.fs i)=false/\Below wr wr wq) (fun q _=>i-(intOf q).toNat)
     case atStart=>exact⟨0,by omega,rfl,rfl,C⟩
     case round=>
      obtain⟨j,hj,rfl,M,L⟩:=hrel;have F:=O M;have h:=O L;clear M L;by_cases a4:j<i
      .obtain⟨b3,o3,e3,a6,S,x1⟩:=(H.go h).at2 B
       cases e3;obtain⟨b2,o2,e2,a5,z0,z1⟩:=(H.go h).at2 (k:=j) (by omega);cases e2;obtain⟨_,_,_,_,_,c5,_⟩:=(Q.go (I y h)).cells;have K:=O (a2 j);rw[X]at S;rw[a0]at x1;generalize x.fs.getD (j*2) 0=r0 at*;generalize x.fs.getD (j*2+1) 0=r1 at*
       have u:(p0=r0/\p1=r1)\/ ¬(p0=r0/\p1=r1)/\(((p0==r0)=false)\/(p0=r0/\(p1==r1)=false)):=by
        simp only[ak];omega
       obtain ⟨rfl,rfl⟩|⟨N,hw⟩:=u
       .go_wp2_with fail
        go_quiet (fail)
        go_wp2;go_ret;refine⟨?_,I g (gV h _)⟩;rw[(d false (by unfold iV;rw[lM a4 (K.trans (by simp))];simp)).2 rfl];rfl
       .have a3:=O N;clear N
        obtain hw|⟨rfl,hw⟩:=hw
        all_goals
         go_wp2_with fail
         go_quiet (fail)
         go_wp2
         go_roundw
         case rel=>exact⟨j+1,by omega,by go_num,(lL F).trans (K.trans (by simpa using a3.out)),gV h _⟩
         case measure=>simp[intOf];omega
      .obtain rfl:j=i:=by omega
       go_wp2
       go_roundw
       case rel=>exact⟨j+1,by omega,by go_num,(d true (by unfold iV;rw[t,z,R,F];rfl)).1 rfl,I y h⟩
       case measure=>simp[intOf];omega
   .obtain rfl:i=n:=by omega
    go_wp2_with((with_reducible refine(ix _ _ _ _).mono ?_);rintro e w2 ⟨o,hb⟩;subst o)
    go_ret;exact⟨by unfold jx;rw[Ho];rfl,I g hb⟩
structure Ro where
 s:Int
 p:Int
 v:Int
def Rp:pB Ro:=fun _ _ x cs=>cs=[.int .u8 x.s,.int .u8 x.p,.int .i16 x.v]/\og x.s/\og x.p/\qD x.v
def QA:kR 3 Rp where
 len:=by rintro S w x cs ⟨rfl,_⟩;rfl
 kept:=by rintro S T w w' x cs h _ _;exact h
 one:=by rintro S w x cs ⟨rfl,_⟩ v a;simp only[aS,bi,cR]at a;obtain rfl|rfl|rfl:=a<;>rfl
def JA:pB (List Ro):=fun S w l cs=>∃a n c,cs=[.slice a n c]/\RR Rp 3 S w a n c l
def Id:kR 1 JA where
 len:=by rintro S w x cs ⟨a,n,c,rfl,_⟩;rfl
 kept:=by rintro S T w w' x cs ⟨a,n,c,e,h⟩ d f;exact⟨a,n,c,e,h.kept QA d f⟩
 one:=by rintro S w x cs ⟨a,n,c,rfl,_⟩ v b;simp only[aS,bi,cR]at b;subst b;rfl
structure rz where
 surfs:List tz
 stop:Int
 far:Int
 pb:Int
 fields:List Int
 waves:List Int
 p9:Int
 il:Int
 puts:List (List Ro)
structure xU (S:Nat->Prop) (w:World) (x:rz) (s f v k:iJ):Prop where
 s:RR Rg 22 S w s.a s.n s.c x.surfs
 f:BR S w f.a f.n f.c x.fields
 v:BR S w v.a v.n v.c x.waves
 k:RR JA 1 S w k.a k.n k.c x.puts
 stop:og x.stop
 far:Ci x.far
 pb:og x.pb
 p9:og x.p9
 il:qD x.il
def xU.kept{S T:Nat->Prop}{w w':World}{x:rz}{s f v k:iJ}(h:xU S w x s f v k)(a:gN S w w')(c:∀b,S b->T b):xU T w' x s f v k:=
 ⟨h.s.kept Sy a c,h.f.kept a c,h.v.kept a c,h.k.kept Id a c,h.stop,h.far,h.pb,h.p9,h.il⟩
def lI(x:rz)(s f v k:iJ):List Value:=[.slice s.a s.n s.c,.int .u8 x.stop,.int .u16 x.far,.int .u8 x.pb,.slice f.a f.n f.c,.slice v.a v.n v.c,.int .u8 x.p9,.int .i16 x.il,.slice k.a k.n k.c]
abbrev EW(x:rz)(s f v k:iJ):Value:=.agg #[Z s.a s.n s.c,.int .u8 x.stop,.int .u16 x.far,.int .u8 x.pb,Z f.a f.n f.c,Z v.a v.n v.c,.int .u8 x.p9,.int .i16 x.il,Z k.a k.n k.c]
def oU(w:World)(g:Nat)(x:rz)(s f v k:iJ):Prop:=w.heap[g]? =some (.cells (lI x s f v k).toArray 28 (0,0))
def oU.lt{w:World}{g:Nat}{x:rz}{s f v k:iJ}(h:oU w g x s f v k):g<w.heap.size:=TK h
def oU.go{w w':World}{g:Nat}{x:rz}{s f v k:iJ}(h:oU w g x s f v k)(hb:Below w w w'):oU w' g x s f v k:=(hb.block g h.lt).trans h
def oU.cells{w:World}{g:Nat}{x:rz}{s f v k:iJ}(h:oU w g x s f v k):
 w.cell? (J g)=some (.slice s.a s.n s.c)/\w.cell? ⟨g,1,none⟩=some (.int .u8 x.stop)/\w.cell? ⟨g,2,none⟩=some (.int .u16 x.far)/\w.cell? ⟨g,3,none⟩=some (.int .u8 x.pb)/\w.cell? ⟨g,4,none⟩=some (.slice f.a f.n f.c)/\
 w.cell? ⟨g,5,none⟩=some (.slice v.a v.n v.c)/\w.cell? ⟨g,6,none⟩=some (.int .u8 x.p9)/\w.cell? ⟨g,7,none⟩=some (.int .i16 x.il)/\w.cell? ⟨g,8,none⟩=some (.slice k.a k.n k.c):=by
 unfold oU lI at h;refine⟨?_,?_,?_,?_,?_,?_,?_,?_,?_⟩ <;>simp[World.cell?,h]
def oU.range{w:World}{g:Nat}{x:rz}{s f v k:iJ}(h:oU w g x s f v k):w.rangeAt g 0 (lI x s f v k):=by
 intro j v a;rw[VV h];simpa using a
def oU.new(w:World)(x:rz)(s f v k:iJ):oU (w.alloc (.cells (lI x s f v k).toArray 28)) w x s f v k:=TL w _
def Tryz.infoDrL:(prog.info? 28).map (·.size)=some 9:=by kernel_rfl
def sK{ops:Array Oper}{a:List Oper}{c:Oper}{d:Act}{w:World}{Q:Exit->Act->World->Prop}{b o:Nat}{x:rz}{s f v k:iJ}(h:w.rangeAt b o (lI x s f v k))(e:c.guard=none)(y:Operand)(i:c.op=.load 28 y)
 (j:d.eval y=.pointer (some ⟨b,o,none⟩))(g:wpList prog ops Q a (d.put c.dst (EW x s f v k)) w):wpList prog ops Q (c::a) d w:=
 wpList_load_mid e 28 y i b o j (lI x s f v k) _ h underlying28 rfl Tryz.infoDrL g
def uP(x:rz):Int:=100000*(x.far%10001)
def yJ{x:rz}(a:Ci x.far):0<=uP x/\uP x<=1000000000:=by
 unfold uP;have:=dq x.far (by omega:(10001:Int)≠0);have:=da x.far (by omega:(0:Int) <10001);omega
def JB(x:rz)(s f v k:iJ)(w:World)(hf:Ci x.far):
 Calls prog 28 #[EW x s f v k] w (iZ w (.int .i64 (uP x))):=by
 have d:=yJ hf;obtain⟨h0,h1⟩:=hf;have b:=O (oU.new w x s f v k);have a:=O ((TH w w).alloc (ag _) (.cells (lI x s f v k).toArray 28));go_enter func28,ntmps28;go_upto_region 1 with fail;refine gI (fun e=>oU e w x s f v k/\Below w w e) ⟨b,a⟩ ?_;clear b a;rintro l ⟨c,g:HQ _⟩;have j:=c.lt;obtain⟨-,-,c2,-,-,-,-,-,-⟩:=c.cells;clear c;have h:0<=x.far%10001:=dq _ (by omega);have i:x.far%10001<10001:=da _ (by omega);clear d;go_wp2;go_ret;exact⟨rfl,g⟩
def EX{zs:List Int}{i:Nat}{a b:Int}(g:zs.length=i*2)(h:(List.range i).all (jM zs)=true)(m:jR zs i<a)(l:a<=2500000)(hb:1<=b/\b<=100):(List.range (i+1)).all (jM (zs++[a,b]))=true:=by
 rw[an];intro j d;have d:=aJ.1 d
 have c:∀j,j<=i->jR (zs++[a,b]) j=jR zs j:=by
  intro j d;unfold jR;split
  .rfl
  .rw[kB (by omega)]
 by_cases e:j<i
 .have:=an.1 h j (aJ.2 e)
  unfold jM at*;rw[kB (by omega),kB (by omega),c j (by omega)];exact this
 .obtain rfl:j=i:=by omega
  unfold jM;have e0:=mb (ys:=[a,b]) (j:=0) g;have k:=mb (ys:=[a,b]) (j:=1) g;rw[bE]at e0;rw[e0,k,c j (ag _)]
  have f:bt b 1 100=true:=by unfold bt;simp;omega
  simp[m,l,f]
def xV(zs:List Int)(n:Nat):Prop:=∀j,j<n->400000<=zs.getD (j*2) 0/\zs.getD (j*2) 0<=700000
def zR{zs:List Int}{i:Nat}{a b:Int}(c:zs.length=i*2)(h:xV zs i)(h0:400000<=a)(h1:a<=700000):xV (zs++[a,b]) (i+1):=by
 intro j d;by_cases e:j=i
 .subst e
  have e0:=mb (ys:=[a,b]) (j:=0) c;rw[bE]at e0;rw[e0];exact⟨h0,h1⟩
 .rw[kB (by omega)];exact h j (by omega)
def Rq(w:World)(e:Ending)(w':World):Prop:=
 ∃a n c zs,e=.returned (.slice a n c)/\IRp (fun b=>w.heap.size<=b/\b<w'.heap.size) w' 2 a n c zs/\(a=none->c=0)/\1<=n/\n<=5/\(List.range n).all (jM zs)=true/\xV zs n/\Below w w w'
def Ie(x:rz)(s f v k:iJ)(w:World)(hf:BR (fun b=>b<w.heap.size) w v.a v.n v.c x.waves):
 Calls prog 27 #[EW x s f v k] w (Rq w):=by
 obtain⟨K,n,L⟩:=v;have Hf:=O hf;clear hf;have P:=O (oU.new w x s f ⟨K,n,L⟩ k);have M:=O ((TH w w).alloc (ag _) (.cells (lI x s f ⟨K,n,L⟩ k).toArray 28));go_enter func27,ntmps27;go_upto_region 1 with fail;refine gI (fun wx=>oU wx w x s f ⟨K,n,L⟩ k/\Below w w wx) ⟨P,M⟩ ?_;clear P M;rintro w1 ⟨u,hb⟩;have hl:=u.lt;have F:=O u;have N:=O hb;clear u hb;go_wp2
 go_loopw [3,4,5] (fun v a0 T wr=>∃(i:Nat)(zs:List Int)(m:Int),i<=5/\T=.int .i64 (i:Int)/\a0=.int .i64 m/\400000<=m/\m<=400000+52000*i/\jR zs i<=m/\wr.ownsRow (w+1) 79 2 v i (zs.map (Value.int .i64))/\(List.range i).all (jM zs)=true/\xV zs i/\oU wr w x s f ⟨K,n,L⟩ k/\Below w w wr) (fun _ _ T _=>5-(intOf T).toNat)
 case atStart=>exact⟨0,[],400000,by omega,rfl,rfl,by omega,by omega,by simp[jR],⟨rfl,VR ⟨rfl,rfl⟩⟩,rfl,fun j h=>absurd h (by omega),F,N⟩
 case round=>
  clear F N hl;obtain⟨i,zs,m,hi,rfl,rfl,a9,b0,hp,S,hz,R,u,hb⟩:=hrel;have A:=O R;clear R;obtain⟨-,-,-,-,-,c5,-,-,-⟩:=u.cells;have hl:=u.lt;have t:=S.1;rw[aU]at t;have q:=O S;have H:=O hz;have F:=O u;have D:=O hb;have o:=O t;have Hp:=O hp;clear S hz u hb t hp;by_cases a2:i<n
  .by_cases a8:i<5
   .obtain⟨b1,off,r,hlt,x0,a4,b2⟩:=(Hf.kept (gE D) (fun b h=>h)).2.2 i a2
    try simp only at r
    subst r;generalize x.waves.getD i 0=z at*;obtain⟨y,e5,a6,a7⟩:=sJ a4 5 (by omega);have a5:b1<wr.heap.size:=eb hlt D.size
    have B:w.heap.size+1<=wr.heap.size:=by omega
    have q1:IntKind.i64.wrap z=z:=TM _ (by omega);have q2:IntKind.i64.wrap (200*z)=200*z:=TM _ (by omega);have q3:IntKind.i64.wrap (m+200*z)=m+200*z:=TM _ (by omega);have q4:IntKind.i64.wrap (m+200*z+1000)=m+200*z+1000:=TM _ (by omega);have q5:IntKind.i64.wrap y=y:=TM _ (by omega);have q6:IntKind.i64.wrap (1+y)=1+y:=TM _ (by omega);have E:=O (EX (a:=m+200*z+1000) (b:=1+y) o H (by have:=Hp.out;omega) (by omega) (by omega))
    have a3:=O (show jR (zs++[m+200*z+1000,1+y]) (i+1)<=m+200*z+1000 by
     unfold jR;rw[aj (by omega),cY];have e0:=mb (ys:=[m+200*z+1000,1+y]) (j:=0) o;rw[bE]at e0
     rw[e0];exact Int.le_refl _)
    go_wp2_with(refine je underlying33 Tryz.infoWave2 rfl (by omega) (by omega) rfl (.tmp 27) (.tmp 38) rfl (w+1) _ i zs rfl (q.alloc _) (fun _=>True) _ 1 1 [m+200*z+1000,1+y] rfl (uC rfl rfl rfl) (fun e=>by cases e) (by omega) (by simp;omega) ?_;intro v' w4 g d;have p:=O g;have l:=O d;clear g d)
    have d:=l.out;have r:=(jI (base:=w.heap.size+1) q d (b:=w.heap.size) (by omega) B).trans F;have E3:=O (jF D q d (by omega) B);have E1:=O r;clear r d l q1 q2 q3 q4 q5 q6 e5
    go_roundw
    case rel=>exact⟨i+1,_,m+200*z+1000,by omega,by go_num,rfl,by omega,by omega,a3,p,E,zR o A (by omega) (by omega),E1,E3⟩
    case measure=>simp[intOf];omega
   .have C:((i:Int)==0)=false:=by simp;omega
    obtain⟨W,X,rfl⟩:=kx q;go_wp2;go_ret;obtain⟨a',c',r,h1,h2⟩:=lc q;cases r;exact⟨W,i,X,zs,rfl,h2.kept (gN.refl _ _) (fun b h=>⟨by omega,h.2⟩),h1,by omega,by omega,H,A,D⟩
  .obtain⟨W,X,rfl⟩:=kx q
   by_cases Q:i=0
   .have C:((i:Int)==0)=true:=by simp;omega
    have B:w.heap.size+1<=wr.heap.size:=by omega
    have E:=O (EX (a:=550000) (b:=1) o H (by simp[jR,Q]) (by omega) (by omega))
    have a1:i+1<=5:=by omega
    clear Q
    go_wp2_with(refine je underlying33 Tryz.infoWave2 rfl (by omega) (by omega) rfl (.tmp 43) (.tmp 45) rfl (w+1) _ i zs rfl (q.alloc _) (fun _=>True) _ 1 1 [550000,1] rfl (uC rfl rfl rfl) (fun e=>by cases e) (by omega) (by simp;omega) ?_;intro v' w4 g d;have p:=O g;have l:=O d;clear g d)
    have d:=l.out;have e3:=jF D q d (by omega) B;go_ret;obtain⟨a',c',rfl,h1,h2⟩:=lc p;exact⟨a',i+1,c',_,rfl,h2.kept (gN.refl _ _) (fun b h=>⟨by omega,h.2⟩),h1,by omega,a1,E,zR o A (by omega) (by omega),e3⟩
   .have C:((i:Int)==0)=false:=by simp;omega
    go_wp2;go_ret;obtain⟨a',c',r,h1,h2⟩:=lc q;cases r;exact⟨W,i,X,zs,rfl,h2.kept (gN.refl _ _) (fun b h=>⟨by omega,h.2⟩),h1,by omega,by omega,H,A,D⟩
