import Derived.Test.YtgohdcccfkjooaaGreatDoorSAT
import Derived.Test.YtgohdcccfkjooaaGreatDoorSAR
import Derived.Deep.Onto
namespace Go.Proofs.YtgohdcccfkjooaaGreatDoor
set_option linter.all false
set_option maxRecDepth 100000
set_option maxHeartbeats 6400000
open Go.Proofs.Tryz Go.RowKit Go.Lib
structure FR (B bw bS:Nat) (s:gW) (a:Option Addr) (n c:Nat) (l:List UInt8) (w W:World):Prop where
 s:Y W bS s a n c
 b:Lib.IsBuilder 108 5 B bw (Lib.byteCells l) W
 be:Below B w W
 kt:kY bw w W
def FR.next{B bw b s a n c l l' w W e f}(h:FR B bw b s a n c l w W)(d:Below W W e)(h2:L7 B bw l' e (.returned (.tuple #[])) f)(g:b≠bw)(j:B<=w.heap.size):FR B bw b s a n c l' w f:=by
 obtain⟨_,h3,i,h5⟩:=h2;have k:=h.be.size;exact⟨h5 b _ _ _ ((d.block b (TK h.s)).trans h.s) (by decide) g,h3,h.be.trans ((d.mono (af j k)).trans i),h.kt.trans ((kY.below d).trans h5)⟩
def FR.go{B bw e s a n c l w W f}(h:FR B bw e s a n c l w W)(d:Below W W f)(g:B<=w.heap.size):FR B bw e s a n c l w f:=
 ⟨(d.block e (TK h.s)).trans h.s,iq h.b d,h.be.trans (d.mono (af g h.be.size)),h.kt.trans (kY.below d)⟩
def kL(ws g c B b l w)(h:w.heap[g]? =some (.cells (ji ws).toArray 9 (0,0)))(f:ws.length<=c)(k:ws.length<=1000000)(j:l.length+(iF ws).length<=1000000)(d:Lib.IsBuilder 108 5 B b (Lib.byteCells l) w)(a:B<=w.heap.size):
 Calls prog 41 #[U b,Z (J g) ws.length c] w (L7 B b (l++iF ws) w):=
 (Cv ws g 0 c B b l w (fun i x m=>by
   rw[aV,gA h i];unfold ji
   rw[bo,aR,m];rfl) (TK h) f k j d a).mono fun e w' h=>h
def jz{B b l w w' e}(h:L7 B b l w e w'):e=.returned (.tuple #[]):=h.1
def ib(x:gM):Nat->List UInt8
 |0=>iF [nq,kP.getD (x.s.kind-1).toNat []]
 |1=>ub x.s 1 10
 |2=>if x.s.p8=0 then[]else iF [lB,iz x.s.p8 6]
 |3=>ub x.s 11 5
 |4=>if x.s.order=0 then[]else iF [kj,iz x.s.order 0]
 |5=>ub x.s 16 2
 |6=>if kb x.s.i7=[]then[]else iF [lP,kb x.s.i7]
 |_=>((List.range (x.zs.length/3)).map (ms x.zs)).flatten
def uh(x):oq x=ib x 0++ib x 1++ib x 2++ib x 3++ib x 4++ib x 5++ib x 6++ib x 7:=rfl
def DP(x a n c bw B N l w)(ho:tr x=true)(hz:IR B w 3 a n c x.zs)(hn:n<=1000000)(hb:Lib.IsBuilder 108 5 B bw (Lib.byteCells l) w)(K:B<=w.heap.size)(hl:l.length+(oq x).length<=1000000)(hg:GW w)(hT:TW N w)(f:N<=B):
 Calls prog 43 #[U bw,.agg (⟨x.s,a,n,c⟩:jt)] w (L7 B bw (l++oq x) w):=by
 have f7:bw<w.heap.size:=by
  obtain ⟨_,v,h,_⟩|⟨_,v,h,_⟩:=hb
  .exact TK h
  .exact TK h
 have f6:B<=bw:=by
  obtain ⟨h,_⟩|⟨h,_⟩:=hb
  .exact h
  .exact h
 have t:=(TH w w).alloc (aa _) (.cells (⟨x.s,a,n,c⟩:jt) 70);have b3:FR B bw w x.s a n c l w (w.alloc (.cells (⟨x.s,a,n,c⟩:jt) 70)):=⟨Y.new w x.s a n c,iq hb t,t.mono K,kY.below t⟩;have d1:oA x.s x.zs (x.zs.length/3)=true:=ho;obtain⟨e9,f0⟩:=vT d1;obtain⟨X,d8,d3⟩:∃X:Nat,x.s.kind=(X:Int)+1/\X<4:=⟨(x.s.kind-1).toNat,by omega,by omega⟩
 have d9:w.heap.size≠bw:=by omega
 have a5:=O b3;have a4:=O d1;have Hz:=O hz;have Hl:=O hl;have Hg:=O hg;have q:=O hT;have d4:=O d8;have C:=O d9;clear b3 d1 ho hz hl hg hT t hb d8 d9 e9 f0;go_enter func43,ntmps43;go_upto_region 1 with fail;refine gI (fun wx=>FR B bw w x.s a n c l w wx) a5 ?_;clear a5;rintro w1 b3;obtain⟨ka,kn,kc,hk,c4⟩:=(q.below (b3.be.mono f)).kin;have b1:kn=4:=c4.1.symm;subst b1;obtain⟨kg,ko,rfl,f8,d7⟩:=c4.2.2 (by omega);obtain⟨kw,b4⟩:∃kw,kP.getD X []=kw:=⟨_,rfl⟩
 have c6:w1.cell? ⟨kg,ko+X,none⟩=some (.string (bs kw)):=by
  rw[<- b4]
  exact d7 X _ (by
   have:X<kP.length:=d3
   rw[ah,ae this];rfl)
 have k0:w1.cell? (J (w.heap.size))=some (.int .i64 ((X:Int)+1)):=by rw[<- d4];exact b3.s.cells.1
 have f3:4<=kc:=c4.2.1
 have f4:(X:Int) <4:=by omega
 have f5:(0:Int)<=(X:Int):=by omega
 have h0:ib x 0=iF [nq,kw]:=by
  show iF [nq,kP.getD (x.s.kind-1).toNat []]=_
  rw[d4,show(X:Int)+1-1=(X:Int)by omega,aI,b4]
 have c5:l.length+(ib x 0).length+(ib x 1).length+(ib x 2).length+(ib x 3).length+(ib x 4).length+(ib x 5).length+(ib x 6).length+(ib x 7).length<=1000000:=by
  have:=Hl.out;rw[uh]at this;simp only[al]at this;omega
 have A:=O c5;have H0:=O h0;have a5:=O b3;clear d7 c4 b3 h0 c5 b4;go_wp2_with fail;refine(kL [nq,kw] w1 2 B bw l _ (TL w1 _) (by simp) (by simp) (by have:=A.out;have:=ai List.length H0;omega) (iq a5.b ((TH _ _).alloc (aa _) _)) (by have:=a5.be.size;simp;omega)).mono ?_;rintro T w2 h2;obtain rfl:=jz h2;have d:=a5.next ((TH w1 w1).alloc (aa _) _) h2 C K;rw[<- H0]at d;have o:=O d;clear h2 d c6 k0 hk a5 H0;go_wp2_with fail;refine(pJ (Bq x.s 1 10) 0 0 10 17 w bw B (l++ib x 0) w2 (xv (q.below (o.be.mono f)) o.s a4 1 10 (by omega) (by omega)) (by simp[Bq]) (by omega) (by omega) (VR (ab (ab (show 0<14 by decide) q.glo) f)) (VS ⟨_,_,_,o.s,by decide,C⟩) o.b (af K o.be.size) (by rw[rU];have:=A.out;simp only[al];show _+(ib x 1).length<=_;omega) (Hg.of o.be (af q.glo f)) (af q.glo f)).mono ?_;rintro T w3 h2;obtain rfl:=jz h2;have d:=o.next (TH w2 w2) h2 C K;rw[rU]at d;have u:=O (show FR B bw w x.s a n c (l++ib x 0++ib x 1) w w3 from d);clear h2 d o
 have c9:(Instr.lookup 176 (.map (some (Classical.choose (q.below (u.be.mono f)).oth))) (.string {data:=#[104,111,108,101]}) false).run prog w3=.ok (.agg #[.string (bs lB),.int .i64 6,.func (.func 325) #[] #[]]) w3:=by
  obtain⟨ol,_,_,d0,W⟩:=dY (q.below (u.be.mono f)).oth;have:=mM underlying176 underlying9 (Tryz.zeroPar w3) d0 lB false;rw[W lB]at this;exact this
 have b6:w3.cell? (J 3)=some (.map (some (Classical.choose (q.below (u.be.mono f)).oth))):=by
  obtain⟨ol,h,_⟩:=dY (q.below (u.be.mono f)).oth;exact h
 generalize Classical.choose (q.below (u.be.mono f)).oth=ob at*;go_wp2_with fail;have t:Below w3 w3 (w3.alloc (.cells #[.string (bs lB),.int .i64 6,.func (.func 325) #[] #[]] 116)):=(TH _ _).alloc (aa _) _;have m:=u.go t K;have r:=TL w3 (.cells #[.string (bs lB),.int .i64 6,.func (.func 325) #[] #[]] 116);have hr:=uG a4
 have e:rS [(lB,6,x.s.p8)]=ib x 2:=by simp[rS,FP,ib]
 refine(pJ [(lB,6,x.s.p8)] w3 0 1 1 w bw B (l++ib x 0++ib x 1) _ (fun i y R=>?_) rfl (by omega) (by omega) (VS ⟨_,_,_,r,by decide,by have:=u.be.size;omega⟩) (VS ⟨_,_,_,m.s,by decide,C⟩) m.b (af K m.be.size) (by rw[e];have:=A.out;simp only[al];omega) (Hg.of m.be (af q.glo f)) (af q.glo f)).mono ?_
 .match i,R with
  |0,R=>
   cases R;have pl:=Ax;refine⟨_,15,fun j v Q=>?_,pl.call,pl.ent,gA m.s 15,by show 6<=18;omega,?_,?_⟩
   .match j,Q with
    |0,Q=>cases Q;exact gA r 0
    |1,Q=>cases Q;exact gA r 1
    |2,Q=>cases Q;exact gA r 2
   .show _<=x.s.p8;omega
   .show x.s.p8<=_;omega
 .rintro T w4 h2
  obtain rfl:=jz h2;have d:=u.next t h2 C K;rw[e]at d;have D:=O (show FR B bw w x.s a n c (l++ib x 0++ib x 1++ib x 2) w w4 from d);clear h2 d u m r t hr e c9 b6;go_wp2_with fail;refine(pJ (Bq x.s 11 5) 0 30 5 7 w bw B (l++ib x 0++ib x 1++ib x 2) w4 (xv (q.below (D.be.mono f)) D.s a4 11 5 (by omega) (by omega)) (by simp[Bq]) (by omega) (by omega) (VR (ab (ab (show 0<14 by decide) q.glo) f)) (VS ⟨_,_,_,D.s,by decide,C⟩) D.b (af K D.be.size) (by rw[rU];have:=A.out;simp only[al];show _+(ib x 3).length<=_;omega) (Hg.of D.be (af q.glo f)) (af q.glo f)).mono ?_;rintro T w5 h2;obtain rfl:=jz h2;have d:=D.next (TH w4 w4) h2 C K;rw[rU]at d;have z:=O (show FR B bw w x.s a n c (l++ib x 0++ib x 1++ib x 2++ib x 3) w w5 from d);clear h2 d D
  have c9:(Instr.lookup 176 (.map (some (Classical.choose (q.below (z.be.mono f)).oth))) (.string {data:=#[111,114,100,101,114]}) false).run prog w5=.ok (.agg #[.string (bs kj),oZ,.func (.func 326) #[] #[]]) w5:=by
   obtain⟨ol,_,_,d0,W⟩:=dY (q.below (z.be.mono f)).oth;have:=mM underlying176 underlying9 (Tryz.zeroPar w5) d0 kj false;rw[W kj]at this;exact this
  have b6:w5.cell? (J 3)=some (.map (some (Classical.choose (q.below (z.be.mono f)).oth))):=by
   obtain⟨ol,h,_⟩:=dY (q.below (z.be.mono f)).oth;exact h
  generalize Classical.choose (q.below (z.be.mono f)).oth=ob at*;go_wp2_with fail;have t:Below w5 w5 (w5.alloc (.cells #[.string (bs kj),oZ,.func (.func 326) #[] #[]] 116)):=(TH _ _).alloc (aa _) _;have m:=z.go t K;have r:=TL w5 (.cells #[.string (bs kj),oZ,.func (.func 326) #[] #[]] 116);have hr:=uG a4
  have e:rS [(kj,0,x.s.order)]=ib x 4:=by simp[rS,FP,ib]
  refine(pJ [(kj,0,x.s.order)] w5 0 1 1 w bw B (l++ib x 0++ib x 1++ib x 2++ib x 3) _ (fun i y R=>?_) rfl (by omega) (by omega) (VS ⟨_,_,_,r,by decide,by have:=z.be.size;omega⟩) (VS ⟨_,_,_,m.s,by decide,C⟩) m.b (af K m.be.size) (by rw[e];have:=A.out;simp only[al];omega) (Hg.of m.be (af q.glo f)) (af q.glo f)).mono ?_
  .match i,R with
   |0,R=>
    cases R;have pl:=yq;refine⟨_,11,fun j v Q=>?_,pl.call,pl.ent,gA m.s 11,by show 0<=18;omega,?_,?_⟩
    .match j,Q with
     |0,Q=>cases Q;exact gA r 0
     |1,Q=>cases Q;exact gA r 1
     |2,Q=>cases Q;exact gA r 2
    .show _<=x.s.order;omega
    .show x.s.order<=_;omega
  .rintro T w6 h2
   obtain rfl:=jz h2;have d:=z.next t h2 C K;rw[e]at d;have E:=O (show FR B bw w x.s a n c (l++ib x 0++ib x 1++ib x 2++ib x 3++ib x 4) w w6 from d);clear h2 d z m r t hr e c9 b6;go_wp2_with fail;refine(pJ (Bq x.s 16 2) 0 45 2 2 w bw B (l++ib x 0++ib x 1++ib x 2++ib x 3++ib x 4) w6 (xv (q.below (E.be.mono f)) E.s a4 16 2 (by omega) (by omega)) (by simp[Bq]) (by omega) (by omega) (VR (ab (ab (show 0<14 by decide) q.glo) f)) (VS ⟨_,_,_,E.s,by decide,C⟩) E.b (af K E.be.size) (by rw[rU];have:=A.out;simp only[al];show _+(ib x 5).length<=_;omega) (Hg.of E.be (af q.glo f)) (af q.glo f)).mono ?_;rintro T w7 h2;obtain rfl:=jz h2;have d:=E.next (TH w6 w6) h2 C K;rw[rU]at d;have F:=O (show FR B bw w x.s a n c (l++ib x 0++ib x 1++ib x 2++ib x 3++ib x 4++ib x 5) w w7 from d);clear h2 d E;by_cases hgl:kb x.s.i7=[]
   .have d5:x.s.i7={data:=#[]}:=Cx hgl
    have e3:w7.cell? ⟨w.heap.size,13,none⟩=some (.string {data:=#[]}):=by rw[<- d5];exact gA F.s 13
    have h6:ib x 6=[]:=by show(if kb x.s.i7=[]then[]else _)=_;rw[aq hgl]
    have S:=O (show FR B bw w x.s a n c (l++ib x 0++ib x 1++ib x 2++ib x 3++ib x 4++ib x 5++ib x 6) w w7 by rw[h6,bG];exact F);clear F hgl d5 h6
    have c3:x.zs.length/3=n:=by have:=Hz.1;omega
    have d2:w7.cell? ⟨w.heap.size,21,none⟩=some (.slice a n c):=gA S.s 21;have f1:n<=c:=Hz.2.1;go_wp2_with fail
    go_loopw [45] (fun iv wr=>∃k:Nat,k<=n/\iv=.int .i64 (k:Int)/\FR B bw w x.s a n c (l++ib x 0++ib x 1++ib x 2++ib x 3++ib x 4++ib x 5++ib x 6++((List.range k).map (ms x.zs)).flatten) w wr) (fun iv _=>n-(intOf iv).toNat)
    case atStart=>exact⟨0,aA _,rfl,by simpa using S.out⟩
    case round=>
     obtain⟨k,hk,rfl,c2⟩:=hrel;have H:=O c2;clear c2 d2;by_cases b1:k<n
     .obtain⟨b,off,rfl,e5,z0,z1,z2⟩:=(Hz.below H.be (aa _)).at3 b1
      have f2:=wH a4 (k:=k) (by omega);have c0:ms x.zs k=iF [lG,iz (x.zs.getD (k*3) 0) 7,iz (x.zs.getD (k*3+1) 0) 0,iz (x.zs.getD (k*3+2) 0) 0]:=rfl;have b9:=rT (ms x.zs) (k:=k) (n:=n) b1;have b7:=O c0;have c7:=O b9;clear c0 b9;generalize x.zs.getD (k*3) 0=q0 at*;generalize x.zs.getD (k*3+1) 0=q1 at*;generalize x.zs.getD (k*3+2) 0=q2 at*;go_wp2_with fail;have M:=TL wr (.cells #[q0,q1,q2] 67);have t:Below wr wr (wr.alloc (.cells #[q0,q1,q2] 67)):=(TH _ _).alloc (aa _) _;have e0:=gA M 0;have e1:=gA M 1;have e2:=gA M 2;have b2:=TK M;have a1:=O t;clear M t z0 z1 z2;go_upto_region 12 with fail;have c1:GW wr:=Hg.of H.be (af q.glo f);have a3:=O c1;clear c1;refine gS 11 [(0,true),(1,true),(2,true),(4,true),(5,true),(7,true),(8,true),(3,false),(6,false),(9,false),(10,false)] (by kernel_rfl) (by kernel_rfl) ?_
      iterate 7
       refine gU (v:=?_) ?_ ?_;rotate_left
       .intro y R
        have k1:=(R.cell (p:=J (wr.heap.size)) b2).trans e0;have k2:=(R.cell (p:=⟨wr.heap.size,1,none⟩) b2).trans e1;have k3:=(R.cell (p:=⟨wr.heap.size,2,none⟩) b2).trans e2;go_simp;with_reducible rfl
       try simp only[V]
      clear e0 e1 e2;refine gP (fun P g=>?_);go_simp;refine(js q0 7 _ (by omega) (by omega) (by omega) (a3.below a1.drew)).mono ?_;rintro T wa ⟨rfl,a8⟩;refine g _ _ a8 ?_;clear g P;have a6:=a1.drew.trans (a8.mono a1.drew.size);(try simp only[V]);refine gP (fun P g=>?_);go_simp;refine(js q1 0 wa (by omega) (by omega) (by omega) (a3.below a6)).mono ?_;rintro T wb ⟨rfl,a9⟩;refine g _ _ a9 ?_;clear g P;have L:=I a6 a9;(try simp only[V]);refine gP (fun P g=>?_);go_simp;refine(js q2 0 wb (by omega) (by omega) (by omega) (a3.below L)).mono ?_;rintro T wc ⟨rfl,b0⟩;refine g _ _ b0 ?_;clear g P;have a7:=I L b0;(try simp only[V]);refine gP (fun P g=>?_);go_simp;refine g _ _ ((TH _ _).alloc (aa _) _) ?_;clear g P;(try simp only[V]);refine iu rfl ?_;have b8:Below wr wr (wc.alloc (.cells (ji [lG,iz q0 7,iz q1 0,iz q2 0]).toArray 9)):=a7.alloc a7.size _
      have b5:(l++ib x 0++ib x 1++ib x 2++ib x 3++ib x 4++ib x 5++ib x 6++((List.range k).map (ms x.zs)).flatten).length+(iF [lG,iz q0 7,iz q1 0,iz q2 0]).length<=1000000:=by
       have h8:(ib x 7).length=(((List.range n).map (ms x.zs)).flatten).length:=by show(((List.range (x.zs.length/3)).map (ms x.zs)).flatten).length=_;rw[c3]
       have h9:=c7.out;have e4:=A.out;rw[b7]at h9;simp only[al];omega
      have a2:=O b8;clear b8 a6 L a7 a8 a9 b0;go_wp2_with fail;refine(kL [lG,iz q0 7,iz q1 0,iz q2 0] wc 4 B bw (l++ib x 0++ib x 1++ib x 2++ib x 3++ib x 4++ib x 5++ib x 6++((List.range k).map (ms x.zs)).flatten) _ (TL wc _) (by simp) (by simp) b5 (iq H.b a2) (af K (af H.be.size a2.size))).mono ?_;rintro T w9 h2;obtain rfl:=jz h2;have d:=H.next a2 h2 C K;rw[<- b7,aC,<- qk]at d;have o:=O d;clear d h2;go_wp2_with fail
      go_roundw
      case rel=>exact⟨k+1,by omega,by go_num,o⟩
      case measure=>simp[intOf];omega
     .obtain rfl:k=n:=by omega
      go_wp2_with fail;go_end0;have hs:=H.out
      have e7:ib x 7=((List.range k).map (ms x.zs)).flatten:=by show((List.range (x.zs.length/3)).map (ms x.zs)).flatten=_;rw[c3]
      refine⟨rfl,?_,hs.be,hs.kt⟩;have hb:=hs.b;rw[uh,e7];try simp only[<- aC]
      try simp only[<- aC]at hb
      exact hb
   .obtain⟨gl,a0⟩:∃gl,kb x.s.i7=gl:=⟨_,rfl⟩
    have d6:x.s.i7=bs gl:=by rw[<- a0,qO]
    have e3:w7.cell? ⟨w.heap.size,13,none⟩=some (.string (bs gl)):=by rw[<- d6];exact gA F.s 13
    have c8:gl≠[]:=by rw[<- a0];exact hgl
    have e6:(gl==[])=false:=by rw[ak];exact c8
    have e8:gl.isEmpty=false:=by rw[List.isEmpty_eq_false_iff];exact c8
    have h6:ib x 6=iF [lP,gl]:=by show(if kb x.s.i7=[]then[]else iF [lP,kb x.s.i7])=_;rw[aj hgl,a0]
    have H6:=O h6;clear hgl h6 a0 d6;go_wp2_with fail;refine(kL [lP,gl] w7 2 B bw (l++ib x 0++ib x 1++ib x 2++ib x 3++ib x 4++ib x 5) _ (TL w7 _) (by simp) (by simp) (by have:=A.out;have:=ai List.length H6;simp only[al];omega) (iq F.b ((TH _ _).alloc (aa _) _)) (by have:=F.be.size;simp;omega)).mono ?_;rintro T w8 h2;obtain rfl:=jz h2;have d:=F.next ((TH w7 w7).alloc (aa _) _) h2 C K;rw[<- H6]at d;have S:=O (show FR B bw w x.s a n c (l++ib x 0++ib x 1++ib x 2++ib x 3++ib x 4++ib x 5++ib x 6) w w8 from d);clear h2 d e3 e6 e8 c8 H6 F
    have c3:x.zs.length/3=n:=by have:=Hz.1;omega
    have d2:w8.cell? ⟨w.heap.size,21,none⟩=some (.slice a n c):=gA S.s 21;have f1:n<=c:=Hz.2.1;go_wp2_with fail
    go_loopw [45] (fun iv wr=>∃k:Nat,k<=n/\iv=.int .i64 (k:Int)/\FR B bw w x.s a n c (l++ib x 0++ib x 1++ib x 2++ib x 3++ib x 4++ib x 5++ib x 6++((List.range k).map (ms x.zs)).flatten) w wr) (fun iv _=>n-(intOf iv).toNat)
    case atStart=>exact⟨0,aA _,rfl,by simpa using S.out⟩
    case round=>
     obtain⟨k,hk,rfl,c2⟩:=hrel;have H:=O c2;clear c2 d2;by_cases b1:k<n
     .obtain⟨b,off,rfl,e5,z0,z1,z2⟩:=(Hz.below H.be (aa _)).at3 b1
      have f2:=wH a4 (k:=k) (by omega);have c0:ms x.zs k=iF [lG,iz (x.zs.getD (k*3) 0) 7,iz (x.zs.getD (k*3+1) 0) 0,iz (x.zs.getD (k*3+2) 0) 0]:=rfl;have b9:=rT (ms x.zs) (k:=k) (n:=n) b1;have b7:=O c0;have c7:=O b9;clear c0 b9;generalize x.zs.getD (k*3) 0=q0 at*;generalize x.zs.getD (k*3+1) 0=q1 at*;generalize x.zs.getD (k*3+2) 0=q2 at*;go_wp2_with fail;have M:=TL wr (.cells #[q0,q1,q2] 67);have t:Below wr wr (wr.alloc (.cells #[q0,q1,q2] 67)):=(TH _ _).alloc (aa _) _;have e0:=gA M 0;have e1:=gA M 1;have e2:=gA M 2;have b2:=TK M;have a1:=O t;clear M t z0 z1 z2;go_upto_region 12 with fail;have c1:GW wr:=Hg.of H.be (af q.glo f);have a3:=O c1;clear c1;refine gS 11 [(0,true),(1,true),(2,true),(4,true),(5,true),(7,true),(8,true),(3,false),(6,false),(9,false),(10,false)] (by kernel_rfl) (by kernel_rfl) ?_
      iterate 7
       refine gU (v:=?_) ?_ ?_;rotate_left
       .intro y R
        have k1:=(R.cell (p:=J (wr.heap.size)) b2).trans e0;have k2:=(R.cell (p:=⟨wr.heap.size,1,none⟩) b2).trans e1;have k3:=(R.cell (p:=⟨wr.heap.size,2,none⟩) b2).trans e2;go_simp;with_reducible rfl
       try simp only[V]
      clear e0 e1 e2;refine gP (fun P g=>?_);go_simp;refine(js q0 7 _ (by omega) (by omega) (by omega) (a3.below a1.drew)).mono ?_;rintro T wa ⟨rfl,a8⟩;refine g _ _ a8 ?_;clear g P;have a6:=a1.drew.trans (a8.mono a1.drew.size);(try simp only[V]);refine gP (fun P g=>?_);go_simp;refine(js q1 0 wa (by omega) (by omega) (by omega) (a3.below a6)).mono ?_;rintro T wb ⟨rfl,a9⟩;refine g _ _ a9 ?_;clear g P;have L:=I a6 a9;(try simp only[V]);refine gP (fun P g=>?_);go_simp;refine(js q2 0 wb (by omega) (by omega) (by omega) (a3.below L)).mono ?_;rintro T wc ⟨rfl,b0⟩;refine g _ _ b0 ?_;clear g P;have a7:=I L b0;(try simp only[V]);refine gP (fun P g=>?_);go_simp;refine g _ _ ((TH _ _).alloc (aa _) _) ?_;clear g P;(try simp only[V]);refine iu rfl ?_;have b8:Below wr wr (wc.alloc (.cells (ji [lG,iz q0 7,iz q1 0,iz q2 0]).toArray 9)):=a7.alloc a7.size _
      have b5:(l++ib x 0++ib x 1++ib x 2++ib x 3++ib x 4++ib x 5++ib x 6++((List.range k).map (ms x.zs)).flatten).length+(iF [lG,iz q0 7,iz q1 0,iz q2 0]).length<=1000000:=by
       have h8:(ib x 7).length=(((List.range n).map (ms x.zs)).flatten).length:=by show(((List.range (x.zs.length/3)).map (ms x.zs)).flatten).length=_;rw[c3]
       have h9:=c7.out;have e4:=A.out;rw[b7]at h9;simp only[al];omega
      have a2:=O b8;clear b8 a6 L a7 a8 a9 b0;go_wp2_with fail;refine(kL [lG,iz q0 7,iz q1 0,iz q2 0] wc 4 B bw (l++ib x 0++ib x 1++ib x 2++ib x 3++ib x 4++ib x 5++ib x 6++((List.range k).map (ms x.zs)).flatten) _ (TL wc _) (by simp) (by simp) b5 (iq H.b a2) (af K (af H.be.size a2.size))).mono ?_;rintro T w9 h2;obtain rfl:=jz h2;have d:=H.next a2 h2 C K;rw[<- b7,aC,<- qk]at d;have o:=O d;clear d h2;go_wp2_with fail
      go_roundw
      case rel=>exact⟨k+1,by omega,by go_num,o⟩
      case measure=>simp[intOf];omega
     .obtain rfl:k=n:=by omega
      go_wp2_with fail;go_end0;have hs:=H.out
      have e7:ib x 7=((List.range k).map (ms x.zs)).flatten:=by show((List.range (x.zs.length/3)).map (ms x.zs)).flatten=_;rw[c3]
      refine⟨rfl,?_,hs.be,hs.kt⟩;have hb:=hs.b;rw[uh,e7];try simp only[<- aC]
      try simp only[<- aC]at hb
      exact hb
structure Tc (x:gR):Prop where
 i6:0<=x.i6/\x.i6<=1000000000
 p9:0<=x.p9/\x.p9<=1000000000
 stop:0<=x.stop/\x.stop<=16
 prim:0<=x.prim/\x.prim<=16
 fs:∀i,i<x.fs.length/2->(-1000000000<=x.fs.getD (i*2) 0/\x.fs.getD (i*2) 0<=1000000000)/\(-1000000000<=x.fs.getD (i*2+1) 0/\x.fs.getD (i*2+1) 0<=1000000000)
 ws:∀i,i<x.ws.length/2->(0<=x.ws.getD (i*2) 0/\x.ws.getD (i*2) 0<=2500000)/\(1<=x.ws.getD (i*2+1) 0/\x.ws.getD (i*2+1) 0<=100)
 l:∀y∈x.l,tr y=true
 cf:∀c∈x.cf,∀i,i<c.zs.length/3->(0<=c.zs.getD (i*3) 0/\c.zs.getD (i*3) 0<=16)/\(1<=c.zs.getD (i*3+1) 0/\c.zs.getD (i*3+1) 0<=17)/\(-1000000000<=c.zs.getD (i*3+2) 0/\c.zs.getD (i*3+2) 0<=1000000000)
def rV{n lo hi}(h:bt n lo hi=true):lo<=n/\n<=hi:=by
 unfold bt at h;simp at h;exact h
def P6{s:gW}{p v}(h1:1<=p)(h2:p<=17):(s.put p v).get p=v:=by
 obtain rfl|rfl|rfl|rfl|rfl|rfl|rfl|rfl|rfl|rfl|rfl|rfl|rfl|rfl|rfl|rfl|rfl:=oL h1 h2<;>rfl
def Of{l i p v}(h:nT l i p v=true):(0<=i/\i<=(l.length:Int)-1)/\(1<=p/\p<=17)/\(-1000000000<=v/\v<=1000000000):=by
 unfold nT at h;rw[am]at h;obtain⟨h1,h2⟩:=h
 cases hx:l[i.toNat]? with
 |none=>rw[hx]at h2;cases h2
 |some x=>
  rw[hx]at h2;simp only[aD]at h2
  have a:nj x.s x.zs (x.zs.length/3) p=0:=by
   unfold mw at h2;split at h2
   .assumption
   .exact absurd h2 (by assumption)
  have d:tt x.s p=true:=by
   unfold nj at a;split at a
   .split at a
    .assumption
    .cases a
   .cases a
  have b:=oM d
  have e:oA (x.s.put p v) x.zs (x.zs.length/3)=true:=by
   unfold mw at h2;rw[aq a]at h2;split at h2
   .assumption
   .cases h2
  have c:=(uG e).1 p;rw[P6 b.1 b.2]at c;unfold qx at h1;simp only[am]at h1;exact⟨rV h1.1.1,b,c⟩
def JR{l zs}:∀{k:Nat}{l':List gM},tu l zs k=some l'->l'.length=l.length
 |0,l',h=>by unfold tu at h;cases h;rfl
 |k+1,l',h=>by
  unfold tu at h
  cases hc:tu l zs k with
  |none=>rw[hc]at h;cases h
  |some a=>
   rw[hc]at h;simp only[aO]at h;split at h
   .cases h
    rw[xP,JR hc]
   .cases h
def JS{l zs}:∀{k:Nat}{l':List gM},tu l zs k=some l'-> ∀i,i<k->(0<=zs.getD (i*3) 0/\zs.getD (i*3) 0<=(l.length:Int)-1)/\(1<=zs.getD (i*3+1) 0/\zs.getD (i*3+1) 0<=17)/\(-1000000000<=zs.getD (i*3+2) 0/\zs.getD (i*3+2) 0<=1000000000)
 |0,l',h,i,hi=>by omega
 |k+1,l',h,i,hi=>by
  unfold tu at h
  cases hc:tu l zs k with
  |none=>rw[hc]at h;cases h
  |some a=>
   rw[hc]at h;simp only[aO]at h;split at h
   .rename_i hq
    by_cases e:i=k
    .subst e
     have:=Of hq.2;rw[JR hc]at this;exact this
    .exact JS hc i (by omega)
   .cases h
def Cy{ws n}(h:(List.range n).all (jM ws)=true):∀i,i<n->299999<ws.getD (i*2) 0
 |0,hi=>by
  have:=an.1 h 0 (aJ.2 hi);unfold jM jR at this;simp at this;have h1:=this.1.1;simpa using h1
 |i+1,hi=>by
  have h1:=Cy h i (by omega);have:=an.1 h (i+1) (aJ.2 hi);unfold jM jR at this;rw[aj (by omega)]at this;simp only[am,aD,cY]at this;omega
def uH{x}(h:iI x=true):Tc x:=by
 have d:∀k,k<6->jO x k=true:=fun k j=>an.1 h k (aJ.2 j)
 have h1:pN x.i6 x.p9=true:=d 1 (by omega);have h2:jx x.i6 x.fs (x.fs.length/2)=true:=d 2 (by omega);have h3:kz x.prim x.ws (x.ws.length/2)=true:=d 3 (by omega);have a:iW x.stop x.l=true:=d 4 (by omega);have h5:jo x.l x.cf=true:=d 5 (by omega);unfold pN at h1;rw[am]at h1;have n:=rV h1.1;have o:=rV h1.2;unfold jx at h2;rw[am]at h2;unfold kz at h3;simp only[am]at h3;have p:=rV h3.1.2;have q:=rV h3.2;unfold iW at a;simp only[am]at a;have r:=rV a.1.1.1.1;have g2:=rV a.1.1.1.2;unfold jo at h5;simp only[am]at h5;refine⟨by omega,by omega,by omega,by omega,fun i hi=>?_,fun i hi=>?_,fun y m=>?_,fun c g i hi=>?_⟩
 .have:=an.1 h2.1 i (aJ.2 hi)
  unfold iV tc at this;simp only[am]at this;have a1:=rV this.1.1;have a2:=rV this.1.2
  have s:jj x.i6<=1000000000:=by unfold jj;split<;>omega
  omega
 .have f:=Cy h3.1.1 i hi
  have:=an.1 h3.1.1 i (aJ.2 hi);unfold jM at this;simp only[am,aD]at this;have a1:=rV this.2;omega
 .have e:=a.1.1.2
  unfold uM at e;rw[di,du]at e;have:=e y m;simpa using this
 .have b:=an.1 h5.1.1 c g
  unfold lr at b
  cases hch:tu x.l c.zs (c.zs.length/3)with
  |none=>rw[hch]at b;cases b
  |some l'=>
   have:=JS hch i hi;omega
abbrev mN:=List UInt8
def qP(v:mN):Prop:=v≠[]/\ ∀b∈v,b≠32/\b≠10/\b≠35
def yu(ws:List mN):Prop:=ws≠[]/\ ∀v∈ws,qP v
def uk:∀(v u l:List UInt8),(∀b∈v,b≠32)->iA u (v++l)=iA (u++v) l
 |[],u,l,_=>by simp
 |b::v,u,l,h=>by
  have a:Pc b=false:=ak.2 (h b aG);rw[bF,iA,a,aj (by simp),uk v (u++[b]) l (fun c d=>h c (au _ d))];simp
def yw:∀ws:List mN,(∀v∈ws,qP v)->iA [] (nN ws)=ws
 |[],_=>rfl
 |[x],h=>by
  have a:=h x aG;rw[nN,<- bG x,uk x [] [] (fun b c=>(a.2 b c).1),iA,aj (by simpa using a.1)];simp
 |x::y::l,h=>by
  have a:=h x aG;rw[nN,uk x [] _ (fun b c=>(a.2 b c).1),iA,show Pc 32=true from rfl,aq rfl,aj (by simpa using a.1),yw (y::l) (fun v d=>h v (au _ d))];simp
def vF:∀(A w t:List UInt8),io w (A++10::t)=io w A++io [] t
 |[],w,t=>rfl
 |b::A,w,t=>by
  rw[bF,io,io];cases hb:(b==10)
  .rw[aj (by simp),aj (by simp)];exact vF A _ t
  .rw[aq rfl,aq rfl,vF A [] t];rfl
def AE:∀(A w:List UInt8),(∀b∈A,b≠10)->io w A=[w++A]
 |[],w,_=>by rw[io,bG]
 |b::A,w,h=>by
  have a:(b==10)=false:=ak.2 (h b aG);rw[io,a,aj (by simp),AE A _ (fun c d=>h c (au _ d))];simp
def yx(ss:List (List UInt8)):List (List mN):=(ss.map (iA [])).filter fun ws=>!ti ws
def DU(t:List UInt8):List (List mN):=yx (io [] t)
def DV(a b):yx (a++b)=yx a++yx b:=by unfold yx;rw[aT,dO]
def Oz(A t):DU (A++10::t)=DU A++DU t:=by unfold DU;rw[vF,DV]
def CG:∀(ws:List mN)(b:UInt8),b∈nN ws->b=32\/ ∃v∈ws,b∈v
 |[],b,h=>by cases h
 |[x],b,h=>VS ⟨x,aG,h⟩
 |x::y::l,b,h=>by
  rw[nN]at h
  obtain h|h:=bj.1 h
  .exact VS ⟨x,aG,h⟩
  .obtain h|h:=aS.1 h
   .exact VR h
   .obtain h|⟨v,hv,hb⟩:=CG (y::l) b h
    .exact VR h
    .exact VS ⟨v,au _ hv,hb⟩
def Md{ws}(h:yu ws):ti ws=false:=by
 obtain⟨h1,h2⟩:=h
 match ws,h1 with
 |v::ws,_=>
  have a:=h2 v aG
  match v,a with
  |b::v,a=>
   show(some b==some 35)=false
   have:=(a.2 b aG).2.2;rw[ak];intro e;cases e;exact this rfl
def Me{ws}(h:∀v∈ws,qP v):∀b∈nN ws,b≠10:=fun b a=>by
 obtain rfl|⟨v,hv,a⟩:=CG ws b a
 .decide
 .exact((h v hv).2 b a).2.1
def Mf{ws}(h:yu ws):DU (nN ws)=[ws]:=by
 unfold DU;rw[AE _ _ (Me h.2)];unfold yx;rw[bD,aN,bI,yw ws h.2,dE,Md h];rfl
def wL(L:List (List mN)):List UInt8:=(L.map iF).flatten
def yS(a b):wL (a++b)=wL a++wL b:=by unfold wL;rw[aT,cG]
def sY(ws):wL [ws]=iF ws:=by simp[wL]
def OA(ws L):wL (ws::L)=nN ws++10::wL L:=by simp[wL,iF]
def yT{α:Type}(f:α->List mN)(l:List α):(l.map fun i=>iF (f i)).flatten=wL (l.map f):=by
 unfold wL;rw[dD];rfl
def wM{α:Type}(f:α->List (List mN)):∀l:List α,(l.map fun i=>wL (f i)).flatten=wL (l.map f).flatten
 |[]=>rfl
 |a::l=>by rw[aN,ce,wM f l,aN,ce,yS]
def mq:jL->List (List mN)->Option jL
 |r,[]=>some r
 |r,w::ws=>(kp r w).bind fun q=>mq q ws
def ke:∀(a b:List (List mN))(r:jL),mq r (a++b)=(mq r a).bind fun q=>mq q b
 |[],b,r=>rfl
 |w::a,b,r=>by
  rw[bF,mq,mq]
  cases kp r w with
  |none=>rfl
  |some q=>exact ke a b q
def oy(r w):mq r [w]=kp r w:=by
 rw[mq];cases kp r w<;>rfl
def vG:∀(ss:List (List UInt8))(i:Nat)(r q:jL),mq r (yx ss)=some q->lR i r ss=.ok q
 |[],i,r,q,h=>by cases h;rfl
 |s::ss,i,r,q,h=>by
  unfold yx at h;rw[aN,dE]at h;rw[lR];cases hs:ti (iA [] s)
  .rw[hs]at h
   rw[fT,aq rfl,mq]at h;rw[aj (by simp)]
   cases hl:kp r (iA [] s)with
   |none=>rw[hl]at h;cases h
   |some a=>rw[hl]at h;exact vG ss (i+1) a q h
  .rw[hs]at h
   rw[gf,aj (by simp)]at h;rw[aq rfl];exact vG ss (i+1) r q h
def Mg{t q}(c:t.length<=20000)(h:mq Ae (DU t)=some q)(a:q.at_=9)(b:iI q.x=true):nr t=⟨q.x,0,0⟩:=by
 unfold nr;rw[aj (by omega),vG _ 0 Ae q h];simp only[a,ne_eq,not_true_eq_false,de];rw[aq b]
def ny{n}(d)(h1: -1000000000<=n)(h2:n<=1000000000):lp (iz n d) d=some n:=by
 have a:=pG d (n.natAbs%10^d);have b:=Ox n d
 have hf:rP n=true:=by unfold rP;simp;omega
 have c:Fj (iz n d) d=0:=by
  unfold Fj;rw[B6];simp only;rw[aq a,b,aq hf]
 have e:Fi (iz n d) d=n:=by
  unfold Fi;rw[B6];simp only;rw[b,aq ⟨a,hf⟩]
 unfold lp;rw[aq c,e]
def mZ(n d):qP (iz n d):=by
 have h:=CF n d;refine⟨h.1,fun b a=>?_⟩;have h2:=Oy (h.2 b a);have h3:=h2.1;unfold K7 at h3;simp at h3;exact⟨h3.1,h2.2⟩
def ul(s:gW)(p:Nat):List (List mN):=if s.get (p:Int)=0 then[]else[[km p,iz (s.get (p:Int)) (oo p)]]
def pK(s:gW)(a n:Nat):List (List mN):=((List.range n).map fun i=>ul s (a+i)).flatten
def AF(zs:List Int)(i:Nat):List mN:=[lG,iz (zs.getD (i*3) 0) 7,iz (zs.getD (i*3+1) 0) 0,iz (zs.getD (i*3+2) 0) 0]
def yy(s:gW):List (List mN):=if s.p8=0 then[]else[[lB,iz s.p8 6]]
def um(s:gW):List (List mN):=if s.order=0 then[]else[[kj,iz s.order 0]]
def uo(s:gW):List (List mN):=if kb s.i7=[]then[]else[[lP,kb s.i7]]
def AG(x:gM):List (List mN):=pK x.s 1 10++yy x.s++pK x.s 11 5++um x.s++pK x.s 16 2++uo x.s++(List.range (x.zs.length/3)).map (AF x.zs)
def sZ(x:gM):List (List mN):=[nq,kP.getD (x.s.kind-1).toNat []]::AG x
def uK(zs:List Int)(i:Nat):List mN:=[lj,iz (zs.getD (i*3) 0) 0,km (zs.getD (i*3+1) 0).toNat,iz (zs.getD (i*3+2) 0) (oo (zs.getD (i*3+1) 0).toNat)]
def yz(c:jd):List (List mN):=[mc,kb c.nm]::(List.range (c.zs.length/3)).map (uK c.zs)
def AH(fs:List Int)(i:Nat):List mN:=[vB,iz (fs.getD (i*2) 0) 6,iz (fs.getD (i*2+1) 0) 6]
def FV(ws:List Int)(i:Nat):List mN:=[Ab,iz (ws.getD (i*2) 0) 3,iz (ws.getD (i*2+1) 0) 0]
def CH(x:gR):List (List mN):=[[xZ,kb x.nm],[sO,if x.i6=0 then lQ else iz x.i6 6],[vA,iz x.p9 6],[Aa,iz x.stop 0],[qJ,iz x.prim 0]]
def AI(x:gR):List (List mN):=
 CH x++(List.range (x.fs.length/2)).map (AH x.fs)++(List.range (x.ws.length/2)).map (FV x.ws)++(x.l.map sZ).flatten++(x.cf.map yz).flatten++[[Fp]]
def P9(s p):Ld s p=wL (ul s p):=by
 unfold Ld ul;split
 .rfl
 .rw[sY]
def OB(s a n):ub s a n=wL (pK s a n):=by
 unfold ub pK;rw[<- wM];congr 2;funext i;exact P9 s _
def OC(x):oq x=wL (sZ x):=by
 unfold oq sZ AG;rw[show([nq,kP.getD (x.s.kind-1).toNat []]::(pK x.s 1 10++yy x.s++pK x.s 11 5++um x.s++pK x.s 16 2++uo x.s++(List.range (x.zs.length/3)).map (AF x.zs)))=[[nq,kP.getD (x.s.kind-1).toNat []]]++(pK x.s 1 10++yy x.s++pK x.s 11 5++um x.s++pK x.s 16 2++uo x.s++(List.range (x.zs.length/3)).map (AF x.zs))from rfl];simp only[yS,sY,OB]
 have h1:(if x.s.p8=0 then[]else iF [lB,iz x.s.p8 6])=wL (yy x.s):=by
  unfold yy;split
  .rfl
  .rw[sY]
 have h2:(if x.s.order=0 then[]else iF [kj,iz x.s.order 0])=wL (um x.s):=by
  unfold um;split
  .rfl
  .rw[sY]
 have h3:(if kb x.s.i7=[]then[]else iF [lP,kb x.s.i7])=wL (uo x.s):=by
  unfold uo;split
  .rfl
  .rw[sY]
 have a:((List.range (x.zs.length/3)).map (ms x.zs)).flatten=wL ((List.range (x.zs.length/3)).map (AF x.zs)):=yT (AF x.zs) _;rw[h1,h2,h3,a];simp only[aC]
def OD(c):ot c=wL (yz c):=by
 unfold ot yz;rw[show([mc,kb c.nm]::(List.range (c.zs.length/3)).map (uK c.zs))=[[mc,kb c.nm]]++(List.range (c.zs.length/3)).map (uK c.zs)from rfl,yS,sY];congr 1;exact yT (uK c.zs) _
def OE(x):Fq x=wL (CH x):=by
 unfold Fq CH wL;simp only[aN,bI,ce,List.flatten_nil,bG,aC]
def OF(x):nO x=wL (AI x):=by
 unfold nO AI;have h1:((List.range (x.fs.length/2)).map (nE x.fs)).flatten=wL ((List.range (x.fs.length/2)).map (AH x.fs)):=yT (AH x.fs) _;have h2:((List.range (x.ws.length/2)).map (qK x.ws)).flatten=wL ((List.range (x.ws.length/2)).map (FV x.ws)):=yT (FV x.ws) _
 have h3:(x.l.map oq).flatten=wL (x.l.map sZ).flatten:=by
  rw[<- wM];congr 2;funext y;exact OC y
 have a:(x.cf.map ot).flatten=wL (x.cf.map yz).flatten:=by
  rw[<- wM];congr 2;funext y;exact OD y
 rw[h1,h2,h3,a,OE];simp only[yS,sY]
def DW{s}(h:kI s=true):qP (kb s):=by
 unfold kI at h;simp only[am,aD]at h;obtain⟨⟨h1,h2⟩,_⟩:=h;refine⟨fun e=>?_,fun b a=>?_⟩
 .have:s.data.toList.length=0:=by rw[show s.data.toList=[]from e];rfl
  have h3:s.size=s.data.toList.length:=by rw[fe];rfl
  omega
 .have:=an.1 h1 b a
  refine⟨?_,?_,?_⟩ <;>(rintro rfl;revert this;decide)
def FW{p}(h1:1<=p)(h2:p<=17):qP (km p):=by
 have:∀p,p<18->1<=p->qP (km p):=by unfold qP;decide
 exact this p (by omega) h1
def kf{f ws}(h:qP f)(h2:∀v∈ws,qP v):yu (f::ws):=⟨by simp,fun v a=>by
 obtain rfl|a:=aS.1 a
 .exact h
 .exact h2 v a⟩
def nb(l)(h:(!l.isEmpty&&l.all fun b=>b !=32&&b !=10&&b !=35)=true):qP l:=by
 simp only[am,di,an,fk,ne_eq]at h;exact⟨fun e=>by subst e;simp at h,fun b a=>⟨(h.2 b a).1.1,(h.2 b a).1.2,(h.2 b a).2⟩⟩
def pR{v}(h:qP v):∀u∈ [v],qP u:=fun u a=>by rw[aK.1 a];exact h
def IV{v w}(h:qP v)(h2:qP w):∀u∈ [v,w],qP u:=fun u a=>by
 obtain rfl|a:=aS.1 a
 .exact h
 .exact pR h2 u a
def FX{v w z}(h:qP v)(h2:qP w)(h3:qP z):∀u∈ [v,w,z],qP u:=fun u a=>by
 obtain rfl|a:=aS.1 a
 .exact h
 .exact IV h2 h3 u a
def FY(s){p}(h1:1<=p)(h2:p<=17):∀w∈ul s p,yu w:=fun w hw=>by
 unfold ul at hw;split at hw
 .cases hw
 .rw[aK.1 hw];exact kf (FW h1 h2) (pR (mZ _ _))
def vH(s){a n}(h1:1<=a)(h2:a+n<=18):∀w∈pK s a n,yu w:=fun w hw=>by
 unfold pK at hw;obtain⟨l,b,hw⟩:=eP.1 hw;obtain⟨i,hi,rfl⟩:=cP.1 b;have:=aJ.1 hi;exact FY s (by omega) (by omega) w hw
def AJ{s zs n}(h:oA s zs n=true)(b:kb s.i7≠[]):kI s.i7=true:=by
 unfold oA at h;rw[am]at h;have a:pC s zs n 5=true:=an.1 h.1 5 (by decide);have a:rI s=true:=a;unfold rI at a;rw[dN]at a
 obtain a|a:=a
 .rw[List.isEmpty_iff]at a
  have:s.i7.data.toList=[]:=by rw[<- ByteArray.toList_eq];exact a
  exact absurd this b
 .exact a
def FZ{s zs n}(h:oA s zs n=true):1<=s.kind/\s.kind<=4:=by
 unfold oA at h;rw[am]at h;have h0:pC s zs n 0=true:=an.1 h.1 0 (by decide);have h0:rK s zs=true:=h0;unfold rK at h0;rw[am]at h0;exact Ej h0.1
def OG{k}(h:k<4):qP (kP.getD k []):=by
 have:∀k,k<4->qP (kP.getD k []):=by unfold qP;decide
 exact this k h
def F8{x}(h:tr x=true):∀w∈sZ x,yu w:=fun w hw=>by
 have a:=FZ h;unfold sZ AG at hw;simp only[aS,bj]at hw
 rcases hw with rfl|(((((hw|hw)|hw)|hw)|hw)|hw)|hw
 .exact kf (nb _ (by decide)) (pR (OG (by omega)))
 .exact vH x.s (by omega) (by omega) w hw
 .unfold yy at hw
  split at hw
  .cases hw
  .rw[aK.1 hw];exact kf (nb _ (by decide)) (pR (mZ _ _))
 .exact vH x.s (by omega) (by omega) w hw
 .unfold um at hw
  split at hw
  .cases hw
  .rw[aK.1 hw];exact kf (nb _ (by decide)) (pR (mZ _ _))
 .exact vH x.s (by omega) (by omega) w hw
 .unfold uo at hw
  split at hw
  .cases hw
  .rename_i hg
   rw[aK.1 hw];exact kf (nb _ (by decide)) (pR (DW (AJ h hg)))
 .obtain⟨i,_,rfl⟩:=cP.1 hw
  exact kf (nb _ (by decide)) (FX (mZ _ _) (mZ _ _) (mZ _ _))
def IW{ks}(h:vV ks=true):∀k∈ks,kI k=true:=fun k a=>by
 obtain⟨i,hi,rfl⟩:=List.mem_iff_getElem.1 a;have:=an.1 h i (aJ.2 hi);unfold od at this;rw[ae hi]at this;simp only[am]at this;exact this.2
def AK{x}(h:iI x=true):∀c∈x.cf,kI c.nm=true:=fun c a=>by
 have h5:jo x.l x.cf=true:=an.1 h 5 (by decide);unfold jo at h5;rw[am]at h5;exact IW h5.2 c.nm (cP.2 ⟨c,a,rfl⟩)
def AL{x}(h:iI x=true):kI x.nm=true:=an.1 h 0 (by decide)
def IX{x}(h:iI x=true):∀w∈AI x,yu w:=fun w hw=>by
 have d:=uH h;unfold AI CH at hw;simp only[bj,aS,bi,cR]at hw
 rcases hw with((((hw|hw)|hw)|hw)|hw)|rfl
 .obtain rfl|rfl|rfl|rfl|rfl:=hw
  .exact kf (nb _ (by decide)) (pR (DW (AL h)))
  .refine kf (nb _ (by decide)) (pR ?_)
   split
   .exact nb _ (by decide)
   .exact mZ _ _
  .exact kf (nb _ (by decide)) (pR (mZ _ _))
  .exact kf (nb _ (by decide)) (pR (mZ _ _))
  .exact kf (nb _ (by decide)) (pR (mZ _ _))
 .obtain⟨i,_,rfl⟩:=cP.1 hw
  exact kf (nb _ (by decide)) (IV (mZ _ _) (mZ _ _))
 .obtain⟨i,_,rfl⟩:=cP.1 hw
  exact kf (nb _ (by decide)) (IV (mZ _ _) (mZ _ _))
 .obtain⟨l,a,hw⟩:=eP.1 hw
  obtain⟨y,f,rfl⟩:=cP.1 a;exact F8 (d.l y f) w hw
 .obtain⟨l,a,hw⟩:=eP.1 hw
  obtain⟨c,b,rfl⟩:=cP.1 a;unfold yz at hw
  obtain rfl|hw:=aS.1 hw
  .exact kf (nb _ (by decide)) (pR (DW (AK h c b)))
  .obtain⟨i,hi,rfl⟩:=cP.1 hw
   have:=d.cf c b i (aJ.1 hi);exact kf (nb _ (by decide)) (FX (mZ _ _) (FW (by omega) (by omega)) (mZ _ _))
 .exact kf (nb _ (by decide)) (fun v e=>by cases e)
def nt{r f ws}{k:Nat}{y}(a:r.at_≠9)(hf:kV.findIdx? (· ==f)=some k)(b:(k:Int)=r.at_+1\/(5<=k/\4<=r.at_/\r.at_<=(k:Int)))(c:jk r.x k ws=some y):kp r (f::ws)=some ⟨y,(k:Int),[]⟩:=by
 unfold kp;rw[aj a];simp only[hf];rw[aq b,c];rfl
def AM{r f ws}(a:r.at_=7)(hf:kV.findIdx? (· ==f)=none):kp r (f::ws)=lX r f ws:=by
 unfold kp lX;rw[aj (by rw[a];decide)];simp only[hf];rw[aq a]
def IY{r ws}(a:r.at_=8):kp r (lj::ws)=(ou r.x.cf fun c=>sP c (lj::ws)).map fun cf=>⟨{r.x with cf:=cf},8,r.seen⟩:=by
 have hf:kV.findIdx? (· ==lj)=none:=by decide+kernel
 unfold kp;rw[aj (by rw[a];decide)];simp only[hf];rw[aj (by rw[a];decide),aq ⟨a,trivial⟩]
def mH{p}(h1:1<=p)(h2:p<=17):kV.findIdx? (· ==km p)=none/\kO.findIdx? (· ==km p)=some (p-1)/\km p≠lG/\km p≠lP/\km p≠lB/\km p≠kj:=by
 have:∀p,p<18->1<=p->kV.findIdx? (· ==km p)=none/\kO.findIdx? (· ==km p)=some (p-1)/\km p≠lG/\km p≠lP/\km p≠lB/\km p≠kj:=by decide+kernel
 exact this p (by omega) h1
def Ga{p q}(h1:1<=p)(h2:p<=17)(h3:1<=q)(c:q<=17)(h:km p=km q):p=q:=by
 have a:=(mH h1 h2).2.1;have b:=(mH h3 c).2.1;rw[h,b]at a;have:=aE a;omega
def up{p}(h1:1<=p)(h2:p<=17):rD (km p)=some p:=by
 rw[ug (mH h1 h2).2.1,Nat.sub_add_cancel h1]
def Gp(y:gR)(l0:List gM)(t:gW)(zs:List Int)(seen:List mN):jL:=⟨{y with l:=l0++[⟨t,zs⟩]},7,seen⟩
def DX(y l0 t zs seen){f d n}(b:kV.findIdx? (· ==f)=none)(h1:f≠lG)(h2:f≠lP)(a:Dv f=some d)(c:f ∉ seen)(e: -1000000000<=n)(g:n<=1000000000):
 kp (Gp y l0 t zs seen) [f,iz n d]=some (Gp y l0 (Ac t f n) zs (seen++[f])):=by
 rw[AM rfl b,nS (l0:=l0) (y:=⟨t,zs⟩) rfl h1 c,aj h2,a];simp only;rw[ny d e g];rfl
def OH{t:gW}{p}(h1:1<=p)(h2:p<=17)(h:t.get p=0):t.put p 0=t:=by
 obtain⟨k,c1,c2,c3,c4,c5,n,o,q,r,a,b,c,d,e,f,g,i,j,l,m⟩:=t
 obtain rfl|rfl|rfl|rfl|rfl|rfl|rfl|rfl|rfl|rfl|rfl|rfl|rfl|rfl|rfl|rfl|rfl:=oL h1 h2<;>(simp[gW.get]at h;subst h;rfl)
def IZ{t:gW}{p q v}(h1:1<=p)(h2:p<=17)(h:p≠q):(t.put p v).get q=t.get q:=by
 obtain rfl|rfl|rfl|rfl|rfl|rfl|rfl|rfl|rfl|rfl|rfl|rfl|rfl|rfl|rfl|rfl|rfl:=oL h1 h2<;>(unfold gW.get gW.put;simp[h.symm])
def Mi(y l0 t zs seen s){p:Nat}(h1:1<=p)(h2:p<=17)(r: -1000000000<=s.get (p:Int)/\s.get (p:Int)<=1000000000)(g:t.get (p:Int)=0)(e:km p ∉ seen):
 ∃a,(∀f∈a,f∈seen\/f=km p)/\mq (Gp y l0 t zs seen) (ul s p)=some (Gp y l0 (t.put (p:Int) (s.get (p:Int))) zs a):=by
 obtain⟨f1,i,f3,b,-,-⟩:=mH h1 h2;unfold ul;split
 .rename_i h0
  refine⟨seen,fun f h=>VR h,?_⟩;rw[h0,OH (by omega) (by omega) g];rfl
 .refine⟨seen++[km p],fun f h=>by simpa using h,?_⟩
  have c:Ac t (km p) (s.get (p:Int))=t.put (p:Int) (s.get (p:Int)):=by unfold Ac;rw[up h1 h2]
  rw[oy,DX y l0 t zs seen f1 f3 b (d:=oo p) (by unfold Dv;rw[up h1 h2]) e r.1 r.2,c]
def jS(t s:gW)(a:Nat):Nat->gW
 |0=>t
 |n+1=>(jS t s a n).put ((a+n:Nat):Int) (s.get ((a+n:Nat):Int))
def uq{t s a}(b:1<=a):∀{n:Nat}{q:Nat},a+n<=18->a+n<=q->(jS t s a n).get (q:Int)=t.get (q:Int)
 |0,q,_,_=>rfl
 |n+1,q,h1,h2=>by
  rw[jS,IZ (by omega) (by omega) (by omega)];exact uq b (by omega) (by omega)
def I4(s a n):pK s a (n+1)=pK s a n++ul s (a+n):=by
 unfold pK;rw[bV,aT,cG];simp
def wN(y l0 t zs seen s)(r:∀p:Int,-1000000000<=s.get p/\s.get p<=1000000000){a}(c:1<=a)(g:∀q:Nat,a<=q->q<=17->t.get (q:Int)=0)(e:∀q:Nat,a<=q->q<=17->km q ∉ seen):
 ∀n,a+n<=18-> ∃b,(∀f∈b,f∈seen\/ ∃q,a<=q/\q<a+n/\f=km q)/\mq (Gp y l0 t zs seen) (pK s a n)=some (Gp y l0 (jS t s a n) zs b)
 |0,_=>⟨seen,fun f h=>VR h,rfl⟩
 |n+1,h=>by
  obtain⟨sn,h1,h2⟩:=wN y l0 t zs seen s r c g e n (by omega)
  have d:km (a+n) ∉ sn:=fun k=>by
   obtain h3|⟨q,q1,q2,q3⟩:=h1 _ k
   .exact e (a+n) (by omega) (by omega) h3
   .have:=Ga (by omega) (by omega) (by omega) (by omega) q3
    omega
  obtain⟨i,h3,j⟩:=Mi y l0 (jS t s a n) zs sn s (p:=a+n) (by omega) (by omega) (r _) (by rw[uq c (by omega) (by omega)];exact g _ (by omega) (by omega)) d;refine⟨i,fun f hf=>?_,by rw[I4,ke,h2];exact j⟩
  obtain h5|h5:=h3 f hf
  .obtain h6|⟨q,q1,q2,q3⟩:=h1 f h5
   .exact VR h6
   .exact VS ⟨q,q1,by omega,q3⟩
  .exact VS ⟨a+n,by omega,by omega,h5⟩
def OI(y l0 t zs seen s)(r:0<=s.p8/\s.p8<=1000000000)(c:t.p8=0)(b:lB ∉ seen):
 ∃a,(∀f∈a,f∈seen\/f=lB)/\mq (Gp y l0 t zs seen) (yy s)=some (Gp y l0 {t with p8:=s.p8} zs a):=by
 unfold yy;split
 .rename_i h0
  refine⟨seen,fun f h=>VR h,?_⟩;rw[h0,<- c];rfl
 .refine⟨seen++[lB],fun f h=>by simpa using h,?_⟩
  rw[oy,DX y l0 t zs seen (by decide+kernel) (by decide+kernel) (by decide+kernel) (d:=6) (by decide+kernel) b (by omega) r.2];rfl
def Mj(y l0 t zs seen s)(r: -3<=s.order/\s.order<=3)(c:t.order=0)(b:kj ∉ seen):
 ∃a,(∀f∈a,f∈seen\/f=kj)/\mq (Gp y l0 t zs seen) (um s)=some (Gp y l0 {t with order:=s.order} zs a):=by
 unfold um;split
 .rename_i h0
  refine⟨seen,fun f h=>VR h,?_⟩;rw[h0,<- c];rfl
 .refine⟨seen++[kj],fun f h=>by simpa using h,?_⟩
  rw[oy,DX y l0 t zs seen (by decide+kernel) (by decide+kernel) (by decide+kernel) (d:=0) (by decide+kernel) b (by omega) (by omega)];rfl
def Mk(y l0 t zs seen s)(b:t.i7={data:=#[]})(hs:lP ∉ seen):
 ∃a,mq (Gp y l0 t zs seen) (uo s)=some (Gp y l0 {t with i7:=s.i7} zs a):=by
 unfold uo;split
 .rename_i h0
  refine⟨seen,?_⟩;rw[Cx h0,<- b];rfl
 .refine⟨seen++[lP],?_⟩
  rw[oy,AM rfl (by decide+kernel),nS (l0:=l0) (y:=⟨t,zs⟩) rfl (by decide+kernel) hs,aq rfl,qO];rfl
def AN{zs:List Int}{n}(h:(n+1)*3<=zs.length):zs.take ((n+1)*3)=zs.take (n*3)++[zs.getD (n*3) 0,zs.getD (n*3+1) 0,zs.getD (n*3+2) 0]:=by
 have h1:∀k,k<zs.length->zs.take (k+1)=zs.take k++[zs.getD k 0]:=fun k a=>by
  rw[List.take_succ,ae a,ah,ae a];rfl
 rw[show(n+1)*3=n*3+1+1+1 by omega,h1 (n*3+1+1) (by omega),h1 (n*3+1) (by omega),h1 (n*3) (by omega)];simp only[aC,bF,bD]
def Gc{zs:List Int}{n}(h:(n+1)*2<=zs.length):zs.take ((n+1)*2)=zs.take (n*2)++[zs.getD (n*2) 0,zs.getD (n*2+1) 0]:=by
 have h1:∀k,k<zs.length->zs.take (k+1)=zs.take k++[zs.getD k 0]:=fun k a=>by
  rw[List.take_succ,ae a,ah,ae a];rfl
 rw[show(n+1)*2=n*2+1+1 by omega,h1 (n*2+1) (by omega),h1 (n*2) (by omega)];simp only[aC,bF,bD]
def I5{a b c d e f}(h1: -1000000000<=a/\a<=1000000000)(h2: -1000000000<=b/\b<=1000000000)(h3: -1000000000<=c/\c<=1000000000):kF [iz a d,iz b e,iz c f] [d,e,f]=some [a,b,c]:=by
 simp[kF,ny d h1.1 h1.2,ny e h2.1 h2.2,ny f h3.1 h3.2]
def Gd{a b d e}(h1: -1000000000<=a/\a<=1000000000)(h2: -1000000000<=b/\b<=1000000000):kF [iz a d,iz b e] [d,e]=some [a,b]:=by
 simp[kF,ny d h1.1 h1.2,ny e h2.1 h2.2]
def CI(y l0 t x seen)(a:tr x=true):∀n,n<=x.zs.length/3->mq (Gp y l0 t [] seen) ((List.range n).map (AF x.zs))=some (Gp y l0 t (x.zs.take (n*3)) seen)
 |0,_=>by simp[mq]
 |n+1,h=>by
  have b:=wH a (k:=n) (by omega);rw[bV,aT,ke,CI y l0 t x seen a n (by omega),aO,aN,bI,oy];unfold AF;rw[AM rfl (by decide+kernel),sW (l0:=l0) (y:=⟨t,x.zs.take (n*3)⟩) rfl,I5 (by omega) (by omega) (by omega),AN (by omega)];rfl
def OJ(s)(k:Nat)(a:(k:Int)=s.kind):{jS {jS {jS (lJ k).s s 1 10 with p8:=s.p8} s 11 5 with order:=s.order} s 16 2 with i7:=s.i7}=s:=by
 obtain⟨k0,c1,c2,c3,c4,c5,n,o,p,q,b,c,d,e,f,g,h,i,j,l,m⟩:=s;subst a;rfl
def OK(t:gW)(h q):({t with p8:=h}:gW).get q=t.get q:=rfl
def Ml(t:gW)(h q):({t with order:=h}:gW).get q=t.get q:=rfl
def AO(t p v)(Q:gW->Prop)(h1:Q {t with curv:=v})(h2:Q {t with conic:=v})(h3:Q {t with t6:=v})(h4:Q {t with t7:=v})(h5:Q {t with a0:=v})(h6:Q {t with a1:=v})(h7:Q {t with a2:=v})(h8:Q {t with a3:=v})(h9:Q {t with t8:=v})(h10:Q {t with r9:=v})(h11:Q {t with dx:=v})(h12:Q {t with dy:=v})(h13:Q {t with ax:=v})(h14:Q {t with ay:=v})(h15:Q {t with az:=v})(h16:Q {t with p0:=v})(h17:Q {t with p1:=v})(h0:Q t):Q (t.put p v):=by
 by_cases a:1<=p/\p<=17
 .obtain rfl|rfl|rfl|rfl|rfl|rfl|rfl|rfl|rfl|rfl|rfl|rfl|rfl|rfl|rfl|rfl|rfl:=oL a.1 a.2
  .exact h1
  .exact h2
  .exact h3
  .exact h4
  .exact h5
  .exact h6
  .exact h7
  .exact h8
  .exact h9
  .exact h10
  .exact h11
  .exact h12
  .exact h13
  .exact h14
  .exact h15
  .exact h16
  .exact h17
 .have e:t.put p v=t:=by
   unfold gW.put;rw[aj (by omega),aj (by omega),aj (by omega),aj (by omega),aj (by omega),aj (by omega),aj (by omega),aj (by omega),aj (by omega),aj (by omega),aj (by omega),aj (by omega),aj (by omega),aj (by omega),aj (by omega),aj (by omega),aj (by omega)]
  rw[e];exact h0
def OL(t:gW)(p v):(t.put p v).p8=t.p8:=AO t p v (fun u=>u.p8=t.p8) rfl rfl rfl rfl rfl rfl rfl rfl rfl rfl rfl rfl rfl rfl rfl rfl rfl rfl
def Mm(t:gW)(p v):(t.put p v).order=t.order:=AO t p v (fun u=>u.order=t.order) rfl rfl rfl rfl rfl rfl rfl rfl rfl rfl rfl rfl rfl rfl rfl rfl rfl rfl
def Mn(t:gW)(p v):(t.put p v).i7=t.i7:=AO t p v (fun u=>u.i7=t.i7) rfl rfl rfl rfl rfl rfl rfl rfl rfl rfl rfl rfl rfl rfl rfl rfl rfl rfl
def CJ(t s a):∀n,(jS t s a n).p8=t.p8
 |0=>rfl
 |n+1=>by rw[jS,OL,CJ t s a n]
def vI(t s a):∀n,(jS t s a n).order=t.order
 |0=>rfl
 |n+1=>by rw[jS,Mm,vI t s a n]
def ta(t s a):∀n,(jS t s a n).i7=t.i7
 |0=>rfl
 |n+1=>by rw[jS,Mn,ta t s a n]
def Qa(k){q:Nat}(h1:1<=q)(h2:q<=17):(lJ k).s.get (q:Int)=0:=by
 have:∀q:Nat,q<18->1<=q->(lJ 0).s.get (q:Int)=0:=by decide+kernel
 exact this q (by omega) h1
def Mo{k}(h:k<4):kP.findIdx? (· ==kP.getD k [])=some k:=by
 have:∀k,k<4->kP.findIdx? (· ==kP.getD k [])=some k:=by decide+kernel
 exact this k h
def CK{t s a n}(c:1<=a)(b:a+n<=18)(d:∀q:Nat,a<=q->q<=17->t.get (q:Int)=0):∀q:Nat,a+n<=q->q<=17->(jS t s a n).get (q:Int)=0:=fun q h1 h2=>by
 rw[uq c b h1];exact d q (by omega) h2
def oz{sn:List mN}{a n}{base:List mN}(i:1<=a)(j:a+n<=18)(h:∀f∈sn,f∈base\/ ∃q,a<=q/\q<a+n/\f=km q){f}(d:f ∉ base)(hf:(f=lB\/f=kj\/f=lP\/ ∃q,(q<a\/a+n<=q)/\1<=q/\q<=17/\f=km q)):f ∉ sn:=fun e=>by
 obtain h1|⟨q,q1,q2,q3⟩:=h f e
 .exact d h1
 .obtain⟨-,-,g,g2,b,c⟩:=mH (p:=q) (by omega) (by omega)
  obtain rfl|rfl|rfl|⟨p,p1,p2,p3,p4⟩:=hf
  .exact b q3.symm
  .exact c q3.symm
  .exact g2 q3.symm
  .have:=Ga p2 p3 (by omega) (by omega) (p4.symm.trans q3)
   omega
def rY{sn a:List mN}{g f}(h:∀f∈a,f∈sn\/f=g)(h1:f ∉ sn)(h2:f≠g):f ∉ a:=fun b=>(h f b).elim h1 h2
def I6(x)(i:tr x=true)(A:x.zs.length=x.zs.length/3*3)(y l0)(k:Nat)(z:(k:Int)=x.s.kind):
 ∃seen,mq (Gp y l0 (lJ k).s [] []) (AG x)=some (Gp y l0 x.s x.zs seen):=by
 obtain⟨f,C,D⟩:=uG i;have c:=OJ x.s k z
 have z0:∀q:Nat,1<=q->q<=17->(lJ k).s.get (q:Int)=0:=fun q h1 h2=>Qa k h1 h2
 have a0:(lJ k).s.p8=0/\(lJ k).s.order=0/\(lJ k).s.i7={data:=#[]}:=⟨rfl,rfl,rfl⟩;generalize(lJ k).s=T0 at*;obtain⟨s1,b,r⟩:=wN y l0 T0 [] [] x.s f (a:=1) (by omega) (fun q h1 h2=>z0 q h1 h2) (fun q _ _ h=>by cases h) 10 (by omega);have K:=CK (s:=x.s) (a:=1) (n:=10) (by omega) (by omega) z0
 have a1:(jS T0 x.s 1 10).p8=0/\(jS T0 x.s 1 10).order=0/\(jS T0 x.s 1 10).i7={data:=#[]}:=by rw[CJ,vI,ta];exact a0
 generalize jS T0 x.s 1 10=T1 at*;obtain⟨s2,d,t⟩:=OI y l0 T1 [] s1 x.s C a1.1 (oz (by omega) (by omega) b (by simp) (VR rfl))
 have m:∀q:Nat,11<=q->q<=17->({T1 with p8:=x.s.p8}:gW).get (q:Int)=0:=fun q h1 h2=>by rw[OK];exact K q h1 h2
 have a2:({T1 with p8:=x.s.p8}:gW).order=0/\({T1 with p8:=x.s.p8}:gW).i7={data:=#[]}:=⟨a1.2.1,a1.2.2⟩;generalize({T1 with p8:=x.s.p8}:gW)=T2 at*;obtain⟨E,e,u⟩:=wN y l0 T2 [] s2 x.s f (a:=11) (by omega) m (fun q h1 h2=>rY d (oz (by omega) (by omega) b (by simp) (VS (VS (VS ⟨q,by omega,by omega,h2,rfl⟩)))) (mH (by omega) h2).2.2.2.2.1) 5 (by omega);have L:=CK (s:=x.s) (a:=11) (n:=5) (by omega) (by omega) m
 have a3:(jS T2 x.s 11 5).order=0/\(jS T2 x.s 11 5).i7={data:=#[]}:=by rw[vI,ta];exact a2
 generalize jS T2 x.s 11 5=T3 at*;obtain⟨F,j,v⟩:=Mj y l0 T3 [] E x.s D a3.1 (oz (by omega) (by omega) e (rY d (oz (by omega) (by omega) b (by simp) (VS (VR rfl))) (by decide+kernel)) (VS (VR rfl)))
 have M:∀q:Nat,16<=q->q<=17->({T3 with order:=x.s.order}:gW).get (q:Int)=0:=fun q h1 h2=>by rw[Ml];exact L q h1 h2
 have o:({T3 with order:=x.s.order}:gW).i7={data:=#[]}:=a3.2;generalize({T3 with order:=x.s.order}:gW)=T4 at*;obtain⟨H,B,w⟩:=wN y l0 T4 [] F x.s f (a:=16) (by omega) M (fun q h1 h2=>rY j (oz (by omega) (by omega) e (rY d (oz (by omega) (by omega) b (by simp) (VS (VS (VS ⟨q,by omega,by omega,h2,rfl⟩)))) (mH (by omega) h2).2.2.2.2.1) (VS (VS (VS ⟨q,by omega,by omega,h2,rfl⟩)))) (mH (by omega) h2).2.2.2.2.2) 2 (by omega)
 have p:(jS T4 x.s 16 2).i7={data:=#[]}:=by rw[ta];exact o
 generalize jS T4 x.s 16 2=T5 at*
 obtain⟨l,g⟩:=Mk y l0 T5 [] H x.s p
  (oz (by omega) (by omega) B (rY j (oz (by omega) (by omega) e (rY d (oz (by omega) (by omega) b (by simp) (VS (VS (VR rfl)))) (by decide+kernel)) (VS (VS (VR rfl)))) (by decide+kernel)) (VS (VS (VR rfl))))
 rw[c]at g;refine⟨l,?_⟩;unfold AG;rw[ke,ke,ke,ke,ke,ke,r,aO,t,aO,u,aO,v,aO,w,aO,g,aO,CI y l0 x.s x l i _ (aa _),<- A,bf]
def OM(x)(b:tr x=true)(e:x.zs.length=x.zs.length/3*3)(y a)(c:4<=a)(d:a<=7)(sn):
 ∃seen,mq ⟨y,a,sn⟩ (sZ x)=some ⟨{y with l:=y.l++[x]},7,seen⟩:=by
 have f:=FZ b;obtain⟨seen,h⟩:=I6 x b e y y.l ((x.s.kind-1).toNat+1) (by omega);refine⟨seen,?_⟩;unfold sZ;rw[mq,nt (k:=7) (y:={y with l:=y.l++[lJ ((x.s.kind-1).toNat+1)]}) (by show a≠9;omega) (by decide+kernel) (VS ⟨by omega,c,d⟩) (by unfold jk;simp only;rw[Mo (by omega)];rfl),aO];exact h
def CL:∀(l:List gM),(∀x∈l,tr x=true)->(∀x∈l,x.zs.length=x.zs.length/3*3)-> ∀(y:gR)(a:Int),4<=a->a<=7-> ∀sn:List mN,
 ∃a' d,4<=a'/\a'<=7/\mq ⟨y,a,sn⟩ (l.map sZ).flatten=some ⟨{y with l:=y.l++l},a',d⟩
 |[],_,_,y,a,h4,h7,sn=>⟨a,sn,h4,h7,by rw[bG];rfl⟩
 |x::l,ho,b,y,a,h4,h7,sn=>by
  obtain⟨s1,h1⟩:=OM x (ho x aG) (b x aG) y a h4 h7 sn;obtain⟨a',s2,b1,b2,h2⟩:=CL l (fun z b=>ho z (au _ b)) (fun z c=>b z (au _ c)) {y with l:=y.l++[x]} 7 (by omega) (by omega) s1;refine⟨a',s2,b1,b2,?_⟩;rw[aN,ce,ke,h1,aO,h2];simp
def yA(y:gR)(c0 nm zs sn)(a:∀i,i<zs.length/3->(0<=zs.getD (i*3) 0/\zs.getD (i*3) 0<=16)/\(1<=zs.getD (i*3+1) 0/\zs.getD (i*3+1) 0<=17)/\(-1000000000<=zs.getD (i*3+2) 0/\zs.getD (i*3+2) 0<=1000000000)):
 ∀n,n<=zs.length/3->mq ⟨{y with cf:=c0++[⟨nm,[]⟩]},8,sn⟩ ((List.range n).map (uK zs))=some ⟨{y with cf:=c0++[⟨nm,zs.take (n*3)⟩]},8,sn⟩
 |0,_=>by simp[mq]
 |n+1,h=>by
  obtain⟨h1,h2,h3⟩:=a n (by omega);rw[bV,aT,ke,yA y c0 nm zs sn a n (by omega),aO,aN,bI,oy];unfold uK;rw[IY rfl,qf];unfold sP;simp only;rw[up (by omega) (by omega)];simp only;rw[ny 0 (by omega) (by omega)];simp only;rw[ny _ (by omega) (by omega),AN (by omega),show(((zs.getD (n*3+1) 0).toNat:Nat):Int)=zs.getD (n*3+1) 0 by omega];rfl
def ON(c)(f:c.zs.length=c.zs.length/3*3)(e:∀i,i<c.zs.length/3->(0<=c.zs.getD (i*3) 0/\c.zs.getD (i*3) 0<=16)/\(1<=c.zs.getD (i*3+1) 0/\c.zs.getD (i*3+1) 0<=17)/\(-1000000000<=c.zs.getD (i*3+2) 0/\c.zs.getD (i*3+2) 0<=1000000000))(y a)(b:4<=a)(d:a<=8)(sn):mq ⟨y,a,sn⟩ (yz c)=some ⟨{y with cf:=y.cf++[c]},8,[]⟩:=by
 unfold yz;rw[mq,nt (k:=8) (y:={y with cf:=y.cf++[⟨c.nm,[]⟩]}) (by show a≠9;omega) (by decide+kernel) (VS ⟨by omega,b,d⟩) (by unfold jk;simp only;rw[qO]),aO];have:=yA y y.cf c.nm c.zs [] e _ (aa _);rw[<- f,bf]at this;exact this
def CM:∀(l:List jd),(∀c∈l,c.zs.length=c.zs.length/3*3)->(∀c∈l,∀i,i<c.zs.length/3->(0<=c.zs.getD (i*3) 0/\c.zs.getD (i*3) 0<=16)/\(1<=c.zs.getD (i*3+1) 0/\c.zs.getD (i*3+1) 0<=17)/\(-1000000000<=c.zs.getD (i*3+2) 0/\c.zs.getD (i*3+2) 0<=1000000000))->
 ∀(y:gR)(a:Int),4<=a->a<=8-> ∀sn:List mN,∃a' b,4<=a'/\a'<=8/\mq ⟨y,a,sn⟩ (l.map yz).flatten=some ⟨{y with cf:=y.cf++l},a',b⟩
 |[],_,_,y,a,h4,h8,sn=>⟨a,sn,h4,h8,by rw[bG];rfl⟩
 |c::l,hz,hr,y,a,h4,h8,sn=>by
  have h1:=ON c (hz c aG) (hr c aG) y a h4 h8 sn;obtain⟨a',s2,b1,b2,h2⟩:=CM l (fun z h=>hz z (au _ h)) (fun z h=>hr z (au _ h)) {y with cf:=y.cf++[c]} 8 (by omega) (by omega) [];refine⟨a',s2,b1,b2,?_⟩;rw[aN,ce,ke,h1,aO,h2];simp
def AP(y fs)(b:y.fs=[])(a:∀i,i<fs.length/2->(-1000000000<=fs.getD (i*2) 0/\fs.getD (i*2) 0<=1000000000)/\(-1000000000<=fs.getD (i*2+1) 0/\fs.getD (i*2+1) 0<=1000000000))(sn):
 ∀n,n<=fs.length/2-> ∃a' c,4<=a'/\a'<=5/\mq ⟨y,4,sn⟩ ((List.range n).map (AH fs))=some ⟨{y with fs:=fs.take (n*2)},a',c⟩
 |0,_=>⟨4,sn,by omega,by omega,by rw[eB,dU,<- b];rfl⟩
 |n+1,h=>by
  obtain⟨a',s1,b1,b2,h1⟩:=AP y fs b a sn n (by omega);obtain⟨d,e⟩:=a n (by omega);refine⟨5,[],by omega,by omega,?_⟩;rw[bV,aT,ke,h1,aO,aN,bI,oy];unfold AH;rw[nt (k:=5) (y:={y with fs:=fs.take ((n+1)*2)}) (by show a'≠9;omega) (by decide+kernel) (VS ⟨by omega,b1,b2⟩) (by unfold jk;simp only;rw[Gd d e,Gc (by omega)];rfl)];rfl
def CN(y ws)(e:y.ws=[])(d:∀i,i<ws.length/2->(0<=ws.getD (i*2) 0/\ws.getD (i*2) 0<=2500000)/\(1<=ws.getD (i*2+1) 0/\ws.getD (i*2+1) 0<=100))(a)(b:4<=a)(c:a<=6)(sn):
 ∀n,n<=ws.length/2-> ∃a' f,4<=a'/\a'<=6/\mq ⟨y,a,sn⟩ ((List.range n).map (FV ws))=some ⟨{y with ws:=ws.take (n*2)},a',f⟩
 |0,_=>⟨a,sn,b,c,by rw[eB,dU,<- e];rfl⟩
 |n+1,h=>by
  obtain⟨a',s1,b1,b2,h1⟩:=CN y ws e d a b c sn n (by omega);obtain⟨g,j⟩:=d n (by omega);refine⟨6,[],by omega,by omega,?_⟩;rw[bV,aT,ke,h1,aO,aN,bI,oy];unfold FV;rw[nt (k:=6) (y:={y with ws:=ws.take ((n+1)*2)}) (by show a'≠9;omega) (by decide+kernel) (VS ⟨by omega,b1,b2⟩) (by unfold jk;simp only;rw[Gd (by omega) (by omega),Gc (by omega)];rfl)];rfl
def Ge(n d):iz n d≠lQ:=fun e=>by
 have:=(CF n d).2 105 (by rw[e];decide)
 revert this;decide
def OO(x)(a:0<=x.i6/\x.i6<=1000000000)(b:0<=x.p9/\x.p9<=1000000000)(c:0<=x.stop/\x.stop<=16)(d:0<=x.prim/\x.prim<=16):
 mq Ae (CH x)=some ⟨{mG with nm:=x.nm,i6:=x.i6,p9:=x.p9,stop:=x.stop,prim:=x.prim},4,[]⟩:=by
 unfold CH;rw[mq,nt (k:=0) (y:={mG with nm:=x.nm}) (by decide) (by decide+kernel) (VR (by decide)) (by unfold jk;simp only;rw[qO];rfl),aO]
 rw[mq,nt (k:=1) (y:={mG with nm:=x.nm,i6:=x.i6}) (by simp) (by decide+kernel) (VR (by simp)) (by
  unfold jk;simp only;by_cases h0:x.i6=0
  .rw[aq h0,aq rfl,h0];rfl
  .rw[aj h0,aj (Ge _ _),ny 6 (by omega) (by omega)];rfl),aO]
 rw[mq,nt (k:=2) (y:={mG with nm:=x.nm,i6:=x.i6,p9:=x.p9}) (by simp) (by decide+kernel) (VR (by simp)) (by unfold jk;simp only;rw[ny 6 (by omega) (by omega)];rfl),aO];rw[mq,nt (k:=3) (y:={mG with nm:=x.nm,i6:=x.i6,p9:=x.p9,stop:=x.stop}) (by simp) (by decide+kernel) (VR (by simp)) (by unfold jk;simp only;rw[ny 0 (by omega) (by omega)];rfl),aO];rw[mq,nt (k:=4) (y:={mG with nm:=x.nm,i6:=x.i6,p9:=x.p9,stop:=x.stop,prim:=x.prim}) (by simp) (by decide+kernel) (VR (by simp)) (by unfold jk;simp only;rw[ny 0 (by omega) (by omega)];rfl),aO];rfl
structure S0 (x:gR):Prop where
 fs:x.fs.length=x.fs.length/2*2
 ws:x.ws.length=x.ws.length/2*2
 l:∀y∈x.l,y.zs.length=y.zs.length/3*3
 cf:∀c∈x.cf,c.zs.length=c.zs.length/3*3
def Qb(y a)(b:4<=a)(c:a<=8)(sn):mq ⟨y,a,sn⟩ [[Fp]]=some ⟨y,9,[]⟩:=by
 rw[oy,nt (k:=9) (y:=y) (by show a≠9;omega) (by decide+kernel) (VS ⟨by omega,b,by show a<=9;omega⟩) rfl];rfl
def OP{x}(h:iI x=true)(hw:S0 x):mq Ae (AI x)=some ⟨x,9,[]⟩:=by
 have a:=uH h;obtain⟨a1,s1,b1,b2,b⟩:=AP {mG with nm:=x.nm,i6:=x.i6,p9:=x.p9,stop:=x.stop,prim:=x.prim} x.fs rfl a.fs [] _ (aa _);rw[<- hw.fs,bf]at b;obtain⟨a2,s2,b3,b4,c⟩:=CN {mG with nm:=x.nm,i6:=x.i6,p9:=x.p9,stop:=x.stop,prim:=x.prim,fs:=x.fs} x.ws rfl a.ws a1 b1 (by omega) s1 _ (aa _);rw[<- hw.ws,bf]at c;obtain⟨a3,k,e,n,i⟩:=CL x.l a.l hw.l {mG with nm:=x.nm,i6:=x.i6,p9:=x.p9,stop:=x.stop,prim:=x.prim,fs:=x.fs,ws:=x.ws} a2 b3 (by omega) s2;obtain⟨d,m,f,g,j⟩:=CM x.cf hw.cf a.cf {mG with nm:=x.nm,i6:=x.i6,p9:=x.p9,stop:=x.stop,prim:=x.prim,fs:=x.fs,ws:=x.ws,l:=[]++x.l} a3 e (by omega) k;unfold AI;rw[ke,ke,ke,ke,ke,OO x a.i6 a.p9 a.stop a.prim,aO,b,aO,c,aO,i,aO];rw[show(({mG with nm:=x.nm,i6:=x.i6,p9:=x.p9,stop:=x.stop,prim:=x.prim,fs:=x.fs,ws:=x.ws,l:=mG.l++x.l}):gR)={mG with nm:=x.nm,i6:=x.i6,p9:=x.p9,stop:=x.stop,prim:=x.prim,fs:=x.fs,ws:=x.ws,l:=[]++x.l} from rfl,j,aO,Qb _ d f g m];rfl
def JU(ws:List mN):Nat:=(ws.map fun v=>v.length+1).sum
def kh:∀(ws:List mN),ws≠[]->(iF ws).length=JU ws
 |[],h=>(h rfl).elim
 |[x],_=>by simp[iF,nN,JU]
 |x::y::l,_=>by
  have h:=kh (y::l) (by simp);unfold iF at h⊢;rw[nN];unfold JU at h⊢;rw[aN,cO,<- h];simp;omega
def pL{α}(f:α->List UInt8)(c):∀(l:List α),(∀a∈l,(f a).length<=c)->((l.map f).flatten).length<=c*l.length
 |[],_=>by simp
 |a::l,h=>by
  have h1:=h a aG;have h2:=pL f c l (fun b d=>h b (au _ d));rw[aN,ce,al,aH,Nat.mul_add];omega
def wO{n d}(h1: -1000000000<=n)(h2:n<=1000000000)(a:d<=9):(iz n d).length<=12:=by
 refine af (ro (k:=10-d) (d:=d) ?_ (by omega)) (by omega);rw[show 10-d+d=10 by omega];omega
def QC(p):oo p<=9:=by unfold oo;split;omega;split<;>omega
def CO{p}:(km p).length<=6:=by
 unfold km;by_cases h:p-1<17
 .have:∀k,k<17->(kO.getD k []).length<=6:=by decide
  exact this _ h
 .rw[ah,bz (by show 17<=p-1;omega)]
  simp
def Mq{k}:(kP.getD k []).length<=8:=by
 by_cases h:k<4
 .have:∀k,k<4->(kP.getD k []).length<=8:=by decide
  exact this _ h
 .rw[ah,bz (by show 4<=k;omega)]
  simp
def I7{s}(h:kI s=true):(kb s).length<=16:=by
 unfold kI at h;simp only[am,aD]at h
 have e:s.size=(kb s).length:=by unfold kb;rw[fe];rfl
 omega
def OQ{s}(r:∀p:Int,-1000000000<=s.get p/\s.get p<=1000000000)(p):(Ld s p).length<=20:=by
 unfold Ld;split
 .simp
 .rw[kh _ (by simp)]
  have h1:=wO (d:=oo p) (r p).1 (r p).2 (QC p);have h2:=CO (p:=p);simp[JU];omega
def xy{s}(r:∀p:Int,-1000000000<=s.get p/\s.get p<=1000000000)(a n):(ub s a n).length<=20*n:=by
 have:=pL (fun i=>Ld s (a+i)) 20 (List.range n) (fun i _=>OQ r _);rw[dt]at this;exact this
def Mr{x}(h:tr x=true):(oq x).length<=648:=by
 obtain⟨a,o,p⟩:=uG h
 have m:x.zs.length/3<=8:=by
  have h1:oA x.s x.zs (x.zs.length/3)=true:=h;unfold oA at h1;rw[am]at h1;have b:pC x.s x.zs (x.zs.length/3) 6=true:=an.1 h1.1 6 (by decide);exact bZ b
 have a1:=xy a 1 10;have a2:=xy a 11 5;have a3:=xy a 16 2
 have c:(iF [nq,kP.getD (x.s.kind-1).toNat []]).length<=17:=by
  rw[kh _ (by simp)];have:=Mq (k:=(x.s.kind-1).toNat);simp only[JU,aN,bI,cO,dh];rw[show nq.length=7 from rfl];omega
 have e:(if x.s.p8=0 then[]else iF [lB,iz x.s.p8 6]).length<=18:=by
  split
  .simp
  .rw[kh _ (by simp)]
   have:=wO (n:=x.s.p8) (d:=6) (by omega) (by omega) (by omega);simp only[JU,aN,bI,cO,dh];rw[show lB.length=4 from rfl];omega
 have f:(if x.s.order=0 then[]else iF [kj,iz x.s.order 0]).length<=10:=by
  split
  .simp
  .rw[kh _ (by simp)]
   have:=ro (z:=x.s.order) (d:=0) (k:=1) (by rw[show(10:Nat)^(1+0)=10 from rfl];omega) (by omega);simp only[JU,aN,bI,cO,dh];rw[show kj.length=5 from rfl];omega
 have g:(if kb x.s.i7=[]then[]else iF [lP,kb x.s.i7]).length<=23:=by
  split
  .simp
  .rename_i hg
   rw[kh _ (by simp)];have:=I7 (AJ h hg);simp only[JU,aN,bI,cO,dh];rw[show lP.length=5 from rfl];omega
 have j:(((List.range (x.zs.length/3)).map (ms x.zs)).flatten).length<=30*8:=by
  refine af (pL (ms x.zs) 30 _ fun i hi=>?_) (by rw[dt];omega);have l:=wH h (aJ.1 hi);unfold ms;rw[kh _ (by simp)];have b1:=ro (z:=x.zs.getD (i*3) 0) (d:=7) (k:=1) (by rw[show(10:Nat)^(1+7)=100000000 from rfl];omega) (by omega);have b2:=ro (z:=x.zs.getD (i*3+1) 0) (d:=0) (k:=4) (by rw[show(10:Nat)^(4+0)=10000 from rfl];omega) (by omega);have b3:=ro (z:=x.zs.getD (i*3+2) 0) (d:=0) (k:=4) (by rw[show(10:Nat)^(4+0)=10000 from rfl];omega) (by omega);simp only[JU,aN,bI,cO,dh];rw[show lG.length=4 from rfl];omega
 unfold oq;simp only[al];omega
def Ms{c}(b:kI c.nm=true)(f:c.zs.length/3<=12)(e:∀i,i<c.zs.length/3->(0<=c.zs.getD (i*3) 0/\c.zs.getD (i*3) 0<=16)/\(1<=c.zs.getD (i*3+1) 0/\c.zs.getD (i*3+1) 0<=17)/\(-1000000000<=c.zs.getD (i*3+2) 0/\c.zs.getD (i*3+2) 0<=1000000000)):(ot c).length<=408:=by
 have a1:(iF [mc,kb c.nm]).length<=24:=by
  rw[kh _ (by simp)];have:=I7 b;simp only[JU,aN,bI,cO,dh];rw[show mc.length=6 from rfl];omega
 have a2:(((List.range (c.zs.length/3)).map (mK c.zs)).flatten).length<=32*12:=by
  refine af (pL (mK c.zs) 32 _ fun i hi=>?_) (by rw[dt];omega);obtain⟨g,h,a⟩:=e i (aJ.1 hi);unfold mK;rw[kh _ (by simp)];have b1:=ro (z:=c.zs.getD (i*3) 0) (d:=0) (k:=2) (by rw[show(10:Nat)^(2+0)=100 from rfl];omega) (by omega);have b2:=CO (p:=(c.zs.getD (i*3+1) 0).toNat);have b3:=wO (d:=oo (c.zs.getD (i*3+1) 0).toNat) a.1 a.2 (QC _);simp only[JU,aN,bI,cO,dh];rw[show lj.length=6 from rfl];omega
 unfold ot;rw[al];omega
def UN{x}(h:iI x=true):(nO x).length<=13000:=by
 have a:=uH h
 have e:∀k,k<6->jO x k=true:=fun k o=>an.1 h k (aJ.2 o)
 have h2:jx x.i6 x.fs (x.fs.length/2)=true:=e 2 (by omega);have h3:kz x.prim x.ws (x.ws.length/2)=true:=e 3 (by omega);have f:iW x.stop x.l=true:=e 4 (by omega);have h5:jo x.l x.cf=true:=e 5 (by omega);unfold jx at h2;rw[am]at h2;have u:=rV h2.2;unfold kz at h3;simp only[am]at h3;have v:=rV h3.1.2;unfold iW at f;simp only[am]at f;have w:=rV f.1.1.1.1;unfold jo at h5;simp only[am,aD]at h5;have A:=h5.1.2
 have a1:(Fq x).length<=100:=by
  have b0:=I7 (AL h);have b1:=wO (n:=x.i6) (d:=6) (by have:=a.i6;omega) (by have:=a.i6;omega) (by omega);have b2:=wO (n:=x.p9) (d:=6) (by have:=a.p9;omega) (by have:=a.p9;omega) (by omega);have b3:=ro (z:=x.stop) (d:=0) (k:=2) (by have:=a.stop;rw[show(10:Nat)^(2+0)=100 from rfl];omega) (by omega);have b4:=ro (z:=x.prim) (d:=0) (k:=2) (by have:=a.prim;rw[show(10:Nat)^(2+0)=100 from rfl];omega) (by omega)
  have t:(if x.i6=0 then lQ else iz x.i6 6).length<=12:=by
   split
   .decide
   .exact b1
  unfold Fq;simp only[al];rw[kh _ (by simp),kh _ (by simp),kh _ (by simp),kh _ (by simp),kh _ (by simp)];simp only[JU,aN,bI,cO,dh];rw[show xZ.length=4 from rfl,show sO.length=6 from rfl,show vA.length=5 from rfl,show Aa.length=4 from rfl,show qJ.length=7 from rfl];omega
 have a2:(((List.range (x.fs.length/2)).map (nE x.fs)).flatten).length<=32*5:=by
  refine af (pL (nE x.fs) 32 _ fun i hi=>?_) (by rw[dt];omega);obtain⟨j,m⟩:=a.fs i (aJ.1 hi);unfold nE;rw[kh _ (by simp)];have b1:=wO (d:=6) j.1 j.2 (by omega);have b2:=wO (d:=6) m.1 m.2 (by omega);simp only[JU,aN,bI,cO,dh];rw[show vB.length=5 from rfl];omega
 have a3:(((List.range (x.ws.length/2)).map (qK x.ws)).flatten).length<=32*5:=by
  refine af (pL (qK x.ws) 32 _ fun i hi=>?_) (by rw[dt];omega);obtain⟨j,m⟩:=a.ws i (aJ.1 hi);unfold qK;rw[kh _ (by simp)];have b1:=wO (n:=x.ws.getD (i*2) 0) (d:=3) (by omega) (by omega) (by omega);have b2:=wO (n:=x.ws.getD (i*2+1) 0) (d:=0) (by omega) (by omega) (by omega);simp only[JU,aN,bI,cO,dh];rw[show Ab.length=4 from rfl];omega
 have q:((x.l.map oq).flatten).length<=648*16:=af (pL oq 648 _ fun y p=>Mr (a.l y p)) (by omega)
 have r:((x.cf.map ot).flatten).length<=408*4:=by
  refine af (pL ot 408 _ fun c g=>Ms (AK h c g) ?_ (a.cf c g)) (by omega);have b:=an.1 h5.1.1 c g;unfold lr at b;split at b
  .cases b
  .exact bZ b
 have s:(iF [Fp]).length<=4:=by decide
 unfold nO;simp only[al];omega
def Gf{x}(h:iI x=true):(nO x).length<=20000:=af (UN h) (by omega)
def Uj:List (List UInt8)->List UInt8
 |[]=>[]
 |[x]=>x
 |x::y::l=>x++10::Uj (y::l)
def Ut:∀L:List (List UInt8),DU (Uj L)=(L.map DU).flatten
 |[]=>rfl
 |[x]=>by simp[Uj]
 |x::y::l=>by rw[Uj,Oz,Ut (y::l)];rfl
def UF:∀L:List (List UInt8),L≠[]->(∀x∈L,∀b∈x,b≠10)->io [] (Uj L)=L
 |[],h,_=>(h rfl).elim
 |[x],_,h=>by rw[Uj,AE x [] (h x aG)];rfl
 |x::y::l,_,h=>by
  rw[Uj,vF,AE x [] (h x aG),UF (y::l) (by simp) (fun z a=>h z (au _ a))];rfl
def UX:∀L:List (List mN),L≠[]->wL L=Uj (L.map nN)++[10]
 |[],h=>(h rfl).elim
 |[x],_=>by rw[OA];simp[Uj,wL]
 |x::y::l,_=>by
  rw[OA]
  show nN x++10::wL (y::l)=(nN x++10::Uj ((y::l).map nN))++[10]
  rw[UX (y::l) (by simp)];simp
def UR:∀L:List (List UInt8),(Uj L).length<=(L.map fun x=>x.length+1).sum
 |[]=>aa _
 |[x]=>by simp[Uj]
 |x::y::l=>by
  have h:=UR (y::l);rw[Uj,al,aH,aN,cO];omega
def UJ:∀L:List (List UInt8),(L.map fun x=>x.length+1).sum<=(Uj L).length+1
 |[]=>aA _
 |[x]=>by simp[Uj]
 |x::y::l=>by
  have h:=UJ (y::l);rw[Uj,al,aH,aN,cO];omega
def Vk:∀(L:List (List UInt8))(k:Nat)(c d:List UInt8),L[k]? =some c->((L.set k d).map fun x=>x.length+1).sum+c.length=(L.map fun x=>x.length+1).sum+d.length
 |[],k,c,d,h=>by cases h
 |x::L,0,c,d,h=>by cases h;simp;omega
 |x::L,k+1,c,d,h=>by
  have:=Vk L k c d h;simp only[aW,aN,cO];omega
def Vj:∀(L:List (List UInt8))(k:Nat)(c d:List UInt8),L[k]? =some c->DU d=DU c->(L.set k d).map DU=L.map DU
 |[],k,c,d,h,_=>by cases h
 |x::L,0,c,d,h,e=>by cases h;simp[e]
 |x::L,k+1,c,d,h,e=>by
  have:=Vj L k c d h e;simp only[aW,aN,this]
def Ur:List UInt8->List UInt8
 |[]=>[]
 |b::l=>if b==32 then 32::32::32::Ur l else b::Ur l
def UG:∀a b:List UInt8,Ur (a++b)=Ur a++Ur b
 |[],b=>rfl
 |x::a,b=>by
  rw[bF,Ur,Ur,UG a b];split<;>rfl
def Um(u l):iA u (32::l)=(if u=[]then[]else[u])++iA [] l:=Lc rfl
def Uz(l):iA [] (32::l)=iA [] l:=by rw[Um];rfl
def UB:∀(l w:List UInt8),iA w (Ur l)=iA w l
 |[],w=>rfl
 |b::l,w=>by
  rw[Ur];cases hb:(b==32)
  .have a:Pc b=false:=hb
   rw[aj (by simp),iA,a,aj (by simp),iA,a,aj (by simp),UB l]
  .have:b=32:=by simpa using hb
   subst this;rw[aq rfl,Um,Um,Um,UB l,Um];simp
def UA:∀(l w:List UInt8),iA w (l++[32])=iA w l
 |[],w=>by
  rw[bD,Um,iA,iA];simp
 |b::l,w=>by
  rw[bF,iA,iA,UA l,UA l]
def UV:∀(l:List UInt8),(∀b∈l,b≠10)-> ∀b∈Ur l,b≠10
 |[],_,b,hb=>by cases hb
 |x::l,h,b,hb=>by
  have h2:=UV l (fun c a=>h c (au _ a));rw[Ur]at hb;split at hb
  .simp only[aS]at hb
   obtain rfl|rfl|rfl|hb:=hb
   .decide
   .decide
   .decide
   .exact h2 b hb
  .obtain rfl|hb:=aS.1 hb
   .exact h _ aG
   .exact h2 b hb
def Vn(c:List UInt8):List UInt8:=32::32::(Ur c++[32])
def Vo(c:List UInt8):List UInt8:=32::32::32::10::c
def UZ(a c:List UInt8):List UInt8:=32::32::35::(a++10::c)
def VD{c}(h:∀b∈c,b≠10):DU (Vn c)=DU c:=by
 unfold DU Vn
 have h2:∀b∈ (32::32::(Ur c++[32]):List UInt8),b≠10:=fun b a=>by
  simp only[aS,bj,bi,cR]at a
  obtain rfl|rfl|a|rfl:=a
  .decide
  .decide
  .exact UV c h b a
  .decide
 rw[AE _ _ h2,AE _ _ h];unfold yx;simp only[bD,aN,bI];rw[Um,Um,UA,UB];rfl
def VE(c):DU (Vo c)=DU c:=by
 unfold Vo;rw[show(32::32::32::10::c:List UInt8)=[32,32,32]++10::c from rfl,Oz];rfl
def UP(v):∀(l:List UInt8),v≠[]-> ∃u ws,iA v l=(v++u)::ws
 |[],h=>⟨[],[],by rw[iA,aj h];simp⟩
 |b::l,h=>by
  rw[iA];split
  .exact⟨[],_,by rw[bG]⟩
  .obtain⟨u,ws,e⟩:=UP (v++[b]) l (by simp)
   exact⟨b::u,ws,by rw[e];simp⟩
def VF(a c)(h:∀b∈a,b≠10):DU (UZ a c)=DU c:=by
 unfold UZ;rw[show(32::32::35::(a++10::c):List UInt8)=(32::32::35::a)++10::c from rfl,Oz]
 have h2:DU (32::32::35::a)=[]:=by
  unfold DU
  rw[AE _ _ (fun b d=>by
   simp only[aS]at d
   obtain rfl|rfl|rfl|d:=d
   .decide
   .decide
   .decide
   .exact h b d)]
  unfold yx;obtain⟨u,ws,e⟩:=UP [35] a (by simp)
  have f:iA [] (32::32::35::a)=([35]++u)::ws:=by
   rw[Uz,Uz,iA,show Pc 35=false from rfl,aj (by simp)];exact e
  simp only[bD,aN,bI,f];rfl
 rw[h2,bD]
def U6(c):(Ur c).length<=c.length+2*c.count 32:=by
 induction c with
 |nil=>exact aa _
 |cons b l a=>
  rw[Ur,List.count_cons];split
  .simp;omega
  .simp;omega
def UE:∀(ws:List mN),(∀v∈ws,qP v)->(nN ws).count 32<=ws.length
 |[],_=>by simp[nN]
 |[x],h=>by
  have:x.count 32=0:=List.count_eq_zero.2 fun a=>((h x aG).2 32 a).1 rfl
  rw[nN,this];simp
 |x::y::l,h=>by
  have h0:x.count 32=0:=List.count_eq_zero.2 fun a=>((h x aG).2 32 a).1 rfl
  have h1:=UE (y::l) (fun v b=>h v (au _ b));rw[nN,List.count_append,h0,List.count_cons];simp only[aH]at h1⊢;simp;omega
def Vd(s p):∀w∈ul s p,w.length<=4:=fun w hw=>by
 unfold ul at hw;split at hw
 .cases hw
 .rw[aK]at hw;subst hw;simp
def UD(s a n):∀w∈pK s a n,w.length<=4:=fun w hw=>by
 unfold pK at hw;obtain⟨l,b,hw⟩:=eP.1 hw;obtain⟨i,_,rfl⟩:=cP.1 b;exact Vd _ _ w hw
def Vu(x):∀w∈sZ x,w.length<=4:=fun w hw=>by
 unfold sZ AG at hw
 obtain rfl|hw:=aS.1 hw
 .simp
 simp only[bj]at hw
 rcases hw with(((((hw|hw)|hw)|hw)|hw)|hw)|hw
 .exact UD _ _ _ w hw
 .unfold yy at hw;split at hw
  .cases hw
  .rw[aK]at hw;subst hw;simp
 .exact UD _ _ _ w hw
 .unfold um at hw;split at hw
  .cases hw
  .rw[aK]at hw;subst hw;simp
 .exact UD _ _ _ w hw
 .unfold uo at hw;split at hw
  .cases hw
  .rw[aK]at hw;subst hw;simp
 .obtain⟨i,_,rfl⟩:=cP.1 hw
  simp[AF]
def Vr(x):∀w∈AI x,w.length<=4:=fun w hw=>by
 unfold AI CH at hw;simp only[bj,aS,bi,cR]at hw
 rcases hw with((((hw|hw)|hw)|hw)|hw)|rfl
 .obtain rfl|rfl|rfl|rfl|rfl:=hw<;>simp
 .obtain⟨i,_,rfl⟩:=cP.1 hw
  simp[AH]
 .obtain⟨i,_,rfl⟩:=cP.1 hw
  simp[FV]
 .obtain⟨l,a,hw⟩:=eP.1 hw
  obtain⟨y,d,rfl⟩:=cP.1 a;exact Vu y w hw
 .obtain⟨l,a,hw⟩:=eP.1 hw
  obtain⟨c,b,rfl⟩:=cP.1 a;unfold yz at hw
  obtain rfl|hw:=aS.1 hw
  .simp
  .obtain⟨i,hi,rfl⟩:=cP.1 hw
   simp[uK]
 .simp
def Un(x:gR):List (List UInt8):=(AI x).map nN
def U5(x):Un x≠[]:=by unfold Un AI CH;simp
def UT(x):0<(Un x).length:=ez.2 (U5 x)
def UM(x):nO x=Uj (Un x)++[10]:=by
 rw[OF,UX _ (by unfold AI CH;simp)];rfl
def UL{x}(h:iI x=true):∀c∈Un x,∀b∈c,b≠10:=fun c a=>by
 obtain⟨w,hw,rfl⟩:=cP.1 a;exact Me (IX h w hw).2
def U4{x}(h:iI x=true):io [] (Uj (Un x))=Un x:=UF _ (U5 x) (UL h)
def US{x}(h:iI x=true):(Uj (Un x)).length<=13000:=by
 have:=UN h;rw[UM,al]at this;omega
def Vq{x}(h:iI x=true):DU (Uj (Un x))=AI x:=by
 rw[Ut];have b:=IX h;unfold Un;generalize AI x=L at b
 induction L with
 |nil=>rfl
 |cons a L c=>
  rw[aN,aN,ce,Mf (b a aG),c (fun w hw=>b w (au _ hw))];rfl
def Up(C:List (List UInt8))(k:Nat):List (List UInt8):=C.set (k%C.length) (Vn (C.getD (k%C.length) []))
def Us(C:List (List UInt8))(k:Nat):List (List UInt8):=C.set (k%C.length) (Vo (C.getD (k%C.length) []))
def Uw(a:List UInt8)(C:List (List UInt8))(k:Nat):List (List UInt8):=C.set (k%C.length) (UZ a (C.getD (k%C.length) []))
def UO{L k d}(f:k<L.length){m}(h:d.length<=(L.getD k []).length+m)(g:DU d=DU (L.getD k [])):
 DU (Uj (L.set k d))=DU (Uj L)/\(Uj (L.set k d)).length<=(Uj L).length+1+m/\(L.set k d).length=L.length:=by
 have e:L[k]? =some (L.getD k []):=by rw[ah,ae f];rfl
 refine⟨by rw[Ut,Ut,Vj L k _ d e g],?_,dL⟩;have a:=Vk L k _ d e;have b:=UR (L.set k d);have c:=UJ L;omega
def Vt{x}(h:iI x=true)(hw:S0 x)(k0 k1 d){a}(g:∀b∈a,b≠10)(l:a.length<=60):
 nr (Uj (Uw a (Us (Up (Un x) k0) k1) d))=⟨x,0,0⟩/\(Uj (Uw a (Us (Up (Un x) k0) k1) d)).length<=14000/\(Uj (Us (Up (Un x) k0) k1)).length<=14000/\(Uj (Up (Un x) k0)).length<=14000:=by
 have j:=UT x;have l0:=US h;have k:=Vq h
 obtain⟨a1,a2,a3⟩:DU (Uj (Up (Un x) k0))=DU (Uj (Un x))/\(Uj (Up (Un x) k0)).length<=(Uj (Un x)).length+1+11/\(Up (Un x) k0).length=(Un x).length:=by
  have c:=cx k0 j
  have f:(Un x).getD (k0% (Un x).length) [] ∈Un x:=by
   rw[ah,ae c];exact cW c
  refine UO c ?_ (VD (UL h _ f));obtain⟨w,e,i⟩:=cP.1 f;rw[<- i];have h1:=U6 (nN w);have h2:=UE w (IX h w e).2;have h3:=Vr x w e;unfold Vn;simp only[aH,al,cI];omega
 generalize Up (Un x) k0=C0 at*
 obtain⟨b1,b2,b3⟩:DU (Uj (Us C0 k1))=DU (Uj C0)/\(Uj (Us C0 k1)).length<=(Uj C0).length+1+4/\(Us C0 k1).length=C0.length:=by
  have c:=cx k1 (show 0<C0.length by omega);exact UO c (by unfold Vo;simp only[aH];omega) (VE _)
 generalize Us C0 k1=C1 at*
 obtain⟨c1,c2,c3⟩:DU (Uj (Uw a C1 d))=DU (Uj C1)/\(Uj (Uw a C1 d)).length<=(Uj C1).length+1+64/\(Uw a C1 d).length=C1.length:=by
  have c:=cx d (show 0<C1.length by omega);exact UO c (by unfold UZ;simp only[aH,al];omega) (VF _ _ g)
 generalize Uw a C1 d=C2 at*;refine⟨Mg (q:=⟨x,9,[]⟩) (by omega) (by rw[c1,b1,a1,k,OP h hw]) rfl h,by omega,by omega,by omega⟩
def Az{B g c}{D:Nat->Prop}{r ws W W' e}(h:iE B g r.at_ c D (kp r ws) W e W')(hat:∀q,kp r ws=some q->q.at_=r.at_):pI (At B g) g c D r ws W e W':=by
 obtain⟨h1,h2,h3⟩:=h;refine⟨h1,h2,h3.imp ?_ id⟩;rintro⟨q,a,b,D',d,h5⟩;refine⟨q,a,b,D',d,?_⟩
 show vM B g q.at_ _ _ _ _
 rw[hat q a];exact h5
def lT{B g c}{D:Nat->Prop}{r ws}{W W':World}(h:kp r ws=none)(a:Below W W W')(b:g<=W.heap.size):pI (At B g) g c D r ws W iX W':=
 ⟨a.mono b,fun k d _=>a.block k d,VS ⟨h,rfl⟩⟩
def qg{B g c k:Nat}{D:Nat->Prop}{r y ws W W'}(h:iE B g r.at_ c D (some ⟨y,(k:Int),[]⟩) W (.returned (.tuple #[])) W')(l:kp r ws=some ⟨y,(k:Int),[]⟩)(d:D g):pI (At B g) g c D r ws W (.returned (.tuple #[])) (W'.setCell ⟨g,9,none⟩ (.int .i64 (k:Int))):=by
 obtain⟨h1,h2,h3⟩:=h
 obtain ⟨q,f,_,D',i,h5⟩|⟨e,_⟩:=h3
 .cases f
  exact⟨kZ h1 (aa _),fun b j a=>(iS (fun e=>a (by rw[e];exact d))).trans (h2 b j a),VR ⟨_,l,rfl,D',i,h5.put⟩⟩
 .cases e
def sX(r:jL)(k:Nat):Prop:=(k:Int)=r.at_+1\/(5<=k/\4<=r.at_/\r.at_<=(k:Int))
def uI{B g cc n c N k j}{D:Nat->Prop}{r W ws a}(l:k<10)(h:vM B g j cc D r W)(p:sX r k)(z:r.at_≠9)(hw:ua W a n c ws W)(e:∀s∈ws,s.length<=100000)(o:ws.length<=100000)(d:cc<=100001)(b:B<=W.heap.size)(i:GW W)(u:TW N W)(t:N<=W.heap.size):
 Calls prog (RB k) #[U g,Z a n c] W (iE B g j cc D ((jk r.x k ws).map fun y=>⟨y,(k:Int),[]⟩) W):=by
 have w:r.at_<=9:=by obtain⟨f,v,s,k,m,A,q⟩:=h;exact q.hi
 unfold sX at p
 match k,l with
 |0,_=>exact LM h hw e (by omega) d b i
 |1,_=>exact FM h hw e (by omega) d b i
 |2,_=>exact IE h hw e (by omega) d b i
 |3,_=>exact LN h hw e (by omega) d b i
 |4,_=>exact DK h hw e (by omega) d b i
 |5,_=>exact IF h hw e o (by omega) d b i
 |6,_=>exact LQ h hw e o (by omega) d b i
 |7,_=>exact DM h hw (by omega) d b u t
 |8,_=>exact FO h hw e (by omega) d b
 |9,_=>exact N0 h hw (by omega) d b
 |k+10,l=>omega
def IJ{r ws}(h:r.at_=9):kp r ws=none:=by unfold kp;rw[aq h]
def IK{r a ws k}(b:r.at_≠9)(c:kV.findIdx? (· ==a)=some k):(sX r k->kp r (a::ws)=(jk r.x k ws).map fun y=>⟨y,(k:Int),[]⟩)/\(¬sX r k->kp r (a::ws)=none):=by
 constructor
 .intro h
  unfold kp;simp only[aj b,c];exact aq h
 .intro h
  unfold kp;simp only[aj b,c];exact aj h
def IL{r a ws}(b:r.at_=7)(c:kV.findIdx? (· ==a)=none):kp r (a::ws)=lX r a ws:=by
 unfold kp lX;simp only[aj (show¬r.at_=9 by omega),c,aq b]
def DR{r ws}(a:r.at_=8):kp r (lj::ws)=mh r lj ws:=by
 have b:kV.findIdx? (· ==lj)=none:=by decide
 unfold kp mh;simp only[aj (show¬r.at_=9 by omega),b,aj (show¬r.at_=7 by omega)];rw[aq ⟨a,trivial⟩]
def yt{r a ws}(d:r.at_≠9)(b:r.at_≠7)(c:¬(r.at_=8/\a=lj))(e:kV.findIdx? (· ==a)=none):kp r (a::ws)=none:=by
 unfold kp;simp only[aj d,e,aj b,aj c]
def Og{r q a ws}(h:lX r a ws=some q):q.at_=7:=by
 unfold lX at h;split at h
 .cases h
 .cases hp:ou r.x.l (fun y=>Ad y (a::ws))with
  |none=>rw[hp]at h;cases h
  |some l=>rw[hp]at h;cases h;rfl
def IM{r q a ws}(h:mh r a ws=some q):q.at_=8:=by
 unfold mh at h
 cases hp:ou r.x.cf (fun c=>sP c (a::ws))with
 |none=>rw[hp]at h;cases h
 |some l=>rw[hp]at h;cases h;rfl
def Oh(args w):(callFunc 327 args).run prog w=.ok (.enter 327 args) w:=by kernel_rfl
def Oi(args w):(callFunc 328 args).run prog w=.ok (.enter 328 args) w:=by kernel_rfl
def Oj(args w):(callFunc 329 args).run prog w=.ok (.enter 329 args) w:=by kernel_rfl
def Ol(args w):(callFunc 330 args).run prog w=.ok (.enter 330 args) w:=by kernel_rfl
def Om(args w):(callFunc 331 args).run prog w=.ok (.enter 331 args) w:=by kernel_rfl
def On(args w):(callFunc 332 args).run prog w=.ok (.enter 332 args) w:=by kernel_rfl
def Oo(args w):(callFunc 333 args).run prog w=.ok (.enter 333 args) w:=by kernel_rfl
def Oq(args w):(callFunc 334 args).run prog w=.ok (.enter 334 args) w:=by kernel_rfl
def Ot(args w):(callFunc 335 args).run prog w=.ok (.enter 335 args) w:=by kernel_rfl
def Ou(args w):(callFunc 336 args).run prog w=.ok (.enter 336 args) w:=by kernel_rfl
def uJ(k)(a:k<10):∀args w,(callFunc (RB k) args).run prog w=.ok (.enter (RB k) args) w:=by
 match k,a with
 |0,_=>exact Oh
 |1,_=>exact Oi
 |2,_=>exact Oj
 |3,_=>exact Ol
 |4,_=>exact Om
 |5,_=>exact On
 |6,_=>exact Oo
 |7,_=>exact Oq
 |8,_=>exact Ot
 |9,_=>exact Ou
 |k+10,a=>omega
def Tryz.zeroRdr(w):(zeroValue 188).run prog w=.ok .nilFunc w:=by kernel_rfl
def AA{B g a c}{D:Nat->Prop}{b W W' e}(h:iE B g a c D b W e W'):e=.returned (.tuple #[])\/e=iX:=by
 obtain ⟨_,_,h,_⟩|⟨_,h⟩:=h.2.2
 .exact VR h
 .exact VS h
def P8(a:Int):a=9\/((a !=9)=true):=by
 by_cases h:a=9
 .exact VR h
 .exact VS (by rw[fk];exact h)
def L9{B g c A}{D:Nat->Prop}{r W}{l:List UInt8}{ws}(h:At B g c D r W)(hw:ua W (J A) (ws.length+1) (ws.length+1) (l::ws) W)(hl:∀s∈l::ws,s.length<=100000)(hn:ws.length<=100000)(hc:c<=100001)(hB:B<=W.heap.size)(hg:GW W)(hT:TW g W):
 Calls prog 52 #[U g,Z (J A) (ws.length+1) (ws.length+1)] W (pI (At B g) g c D r (l::ws) W):=by
 obtain⟨e6,c0,e2,e0⟩:g<B/\D g/\ -1<=r.at_/\r.at_<=9:=by obtain⟨f,v,s,k,m,hA,hL⟩:=h;exact⟨hL.gB,hL.dg,hL.lo,hL.hi⟩
 have hgl:g<W.heap.size:=by omega
 obtain⟨c9,f9⟩:W.cell? ⟨g,9,none⟩=some (.int .i64 r.at_)/\W.frozen? ⟨g,9,none⟩=false:=by obtain⟨f,v,s,k,m,hA,hL⟩:=h;exact hA.cell 9
 have b8:W.cell? (J A)=some (.string (bs l)):=by
  obtain⟨g',off,e,_,h3⟩:=hw.2.2 (by omega);cases e;exact h3 0 l rfl
 have d5:A<W.heap.size:=by
  obtain⟨g',off,e,h3,_⟩:=hw.2.2 (by omega);cases e;exact h3
 obtain⟨oa,on,oc,ho,c6⟩:=hT.ord;have e4:on=10:=c6.1.symm;subst e4;have e3:1<W.heap.size:=ab (ab (show 1<14 by decide) hT.glo) (by omega);have H:=O h;have Hw:=O hw;have Hl:=O hl;have Hg:=O hg;have HT:=O hT;have d1:=O c6;have Hn:=O hn;clear h hw hl hg hT c6 hn f9;go_enter func52,ntmps52
 obtain h9|h9:=P8 r.at_
 .have t:pI (At B g) g c D r (l::ws) W iX W:=lT (IJ h9) (TH _ _) (by omega)
  have c1:=t;rw[h9]at c9;clear t h9 b8 ho e2 e0;unfold iX at c1;have F:=O c1;clear c1;go_wp2_with fail;refine(lm _).mono ?_;rintro e w3 ⟨rfl,rfl⟩;unfold iX;go_wp2_with fail;exact⟨rfl,F⟩
 .have d3:r.at_≠9:=by rw[fk]at h9;exact h9
  have H9:=O d3;clear d3;go_wp2_with fail;refine(kW _).mono ?_;rintro e w3 ⟨rfl,rfl⟩;clear h9;go_upto_region 1 with fail;refine gS 5 [(0,true),(1,true),(2,true),(3,true),(4,false)] (by kernel_rfl) (by kernel_rfl) ?_
  iterate 4
   refine gU (v:=?_) ?_ ?_;rotate_left
   .intro y u
    have k1:=(u.cell (p:=J 1) e3).trans ho;have k2:=(u.cell (p:=J A) d5).trans b8;go_simp;with_reducible rfl
   try simp only[V]
  refine gP (fun KK d4=>?_);go_simp;refine(Ar kV l oa 10 oc g W.drew (d1.kept (fun _ _=>rfl) (aa _)) (show g<=W.heap.size by omega) (by omega)).mono ?_;rintro e j ⟨rfl,c5⟩;refine d4 _ _ c5 ?_;clear d4 KK;(try simp only[V]);refine iu rfl ?_;have R:Below W W j:=(TH W W).drew.trans c5;have e8:=R.size;have d9:j.cell? ⟨g,9,none⟩=some (.int .i64 r.at_):=(R.cell (p:=⟨g,9,none⟩) hgl).trans c9;have X:j.cell? (J A)=some (.string (bs l)):=(R.cell (p:=J A) d5).trans b8;have H4:=O (vM.go H R);have P:=O R;have b7:=O (sV Hw R);have b6:=O (Hg.below R);have T:=O (HT.below (R.mono (by omega)));clear c5 R c9 b8 ho H Hw Hg HT d1
  cases hk:kV.findIdx? (· ==l)with
  |some k=>
   have w:k<10:=qN hk;have a2:=IK (ws:=ws) H9 hk;have i:=O a2;have Hk:=O hk;clear a2 hk;unfold Lj
   have e7:(0:Int)<=(k:Int):=by omega
   by_cases h1:(k:Int)=r.at_+1
   .have d6:((k:Int)==r.at_+1)=true:=by rw[dz];exact h1
    have b3:sX r k:=VR h1;have z:=O b3;clear h1 b3;go_wp2_with fail;refine(kW _).mono ?_;rintro e w5 ⟨rfl,rfl⟩;go_upto_region 4 with fail;have a8:4<j.heap.size:=ab (ab (show 4<14 by decide) T.glo) (by omega);obtain⟨ob,ol,b2,c8,b1,C⟩:=T.rdr
    have a3:ob<j.heap.size:=by omega
    have b0:∀y,Below j j y->(Instr.lookup 189 (.map (some ob)) (.string (bs l)) false).run prog y=.ok (.func (.func (RB k)) #[] #[]) y:=fun y u=>by
     rw[mM underlying189 underlying9 (Tryz.zeroRdr y) (b1.block (u.block ob a3)) l false,C l];unfold Fv;rw[Hk];rfl
    have a6:=O b0;clear b1 C b0
    have S:A<j.heap.size:=by omega
    have c7:g<j.heap.size:=by omega
    have a7:B<=j.drew.heap.size:=by show B<=j.heap.size;omega
    have a9:g<=j.drew.heap.size:=by show g<=j.heap.size;omega
    have a5:=O (P.drew);have L:Below j j j.drew:=(TH _ _).drew;have a4:=O (vM.go H4 L);have Q:=O (b6.below L);have N:=O (T.below (L.mono (by omega)));have b4:=sV b7 L;have c2:=O b4;clear L b4;by_cases b5:ws.length=0
    .obtain rfl:ws=[]:=aX.1 b5
     refine gS 8 [(0,true),(1,true),(2,true),(3,true),(4,true),(5,true),(6,true),(7,true)] (by kernel_rfl) (by kernel_rfl) ?_
     iterate 8
      refine gU (v:=?_) ?_ ?_;rotate_left
      .intro y u
       have k1:=(u.cell (p:=J 4) a8).trans b2;have k2:=(u.cell (p:=J A) S).trans X;have k3:=a6 y (gJ (k:=1) u);go_simp;with_reducible rfl
      try simp only[V]
     refine iu rfl ?_;have E:=uJ k w;go_wp2_with fail;clear E;refine(uI w a4 z H9 ⟨rfl,aa _,fun h0=>absurd h0 (by simp)⟩ (fun s hs=>Hl s (au _ hs)) Hn hc a7 Q N a9).mono ?_;rintro e w6 n;have b:=mf n a5 (by omega);clear n
     cases hh:jk r.x k []with
     |none=>
      rw[hh]at b
      obtain ⟨q,o,_⟩|⟨_,rfl⟩:=b.2.2
      .cases o
      .have a:pI (At B g) g c D r (l::[]) W iX w6:=⟨b.1,b.2.1,VS ⟨(i.1 z).trans (by rw[hh];rfl),rfl⟩⟩
       clear b hh;unfold iX at a⊢;have d:=O a;clear a;go_wp2_with fail;exact⟨rfl,d⟩
     |some y=>
      rw[hh]at b
      obtain ⟨q,o,rfl,D',h4,h5⟩|⟨o,_⟩:=id b.2.2
      .have M:kp r (l::[])=some ⟨y,(k:Int),[]⟩:=(i.1 z).trans (by rw[hh];rfl)
       have a:=qg (k:=k) (y:=y) b M c0;obtain⟨f',v',s',k',m',K,a1⟩:=h5;obtain⟨a0,c3⟩:=K.cell 9
       change w6.cell? ⟨g,9,none⟩=some (.int .i64 r.at_)at a0
       have d:=O a;clear a b M a1 K h4 hh o X d9;go_wp2_with fail;go_end0;exact d
      .cases o
    .have d0:¬ws=[]:=fun e=>b5 (by rw[e];rfl)
     have d8:(1:Int)<=(ws.length:Int)+1:=by omega
     refine gS 8 [(0,true),(1,true),(2,true),(3,true),(4,true),(5,true),(6,true),(7,true)] (by kernel_rfl) (by kernel_rfl) ?_
     iterate 8
      refine gU (v:=?_) ?_ ?_;rotate_left
      .intro y u
       have k1:=(u.cell (p:=J 4) a8).trans b2;have k2:=(u.cell (p:=J A) S).trans X;have k3:=a6 y (gJ (k:=1) u);go_simp;with_reducible rfl
      try simp only[V]
     refine iu rfl ?_;have E:=uJ k w;go_wp2_with fail;clear E;refine(uI w a4 z H9 (by have:=Ay c2;simpa using this) (fun s hs=>Hl s (au _ hs)) Hn hc a7 Q N a9).mono ?_;rintro e w6 n;have b:=mf n a5 (by omega);clear n
     cases hh:jk r.x k ws with
     |none=>
      rw[hh]at b
      obtain ⟨q,o,_⟩|⟨_,rfl⟩:=b.2.2
      .cases o
      .have a:pI (At B g) g c D r (l::ws) W iX w6:=⟨b.1,b.2.1,VS ⟨(i.1 z).trans (by rw[hh];rfl),rfl⟩⟩
       clear b hh;unfold iX at a⊢;have d:=O a;clear a;go_wp2_with fail;exact⟨rfl,d⟩
     |some y=>
      rw[hh]at b
      obtain ⟨q,o,rfl,D',h4,h5⟩|⟨o,_⟩:=id b.2.2
      .have M:kp r (l::ws)=some ⟨y,(k:Int),[]⟩:=(i.1 z).trans (by rw[hh];rfl)
       have a:=qg (k:=k) (y:=y) b M c0;obtain⟨f',v',s',k',m',K,a1⟩:=h5;obtain⟨a0,c3⟩:=K.cell 9
       change w6.cell? ⟨g,9,none⟩=some (.int .i64 r.at_)at a0
       have d:=O a;clear a b M a1 K h4 hh o X d9;go_wp2_with fail;go_end0;exact d
      .cases o
   .have d6:((k:Int)==r.at_+1)=false:=by rw[ak];exact h1
    by_cases h5:5<=k
    .by_cases h4:4<=r.at_
     .by_cases h6:r.at_<=(k:Int)
      .have b3:sX r k:=VS ⟨h5,h4,h6⟩
       have z:=O b3
       have c4:(5:Int)<=(k:Int):=by omega
       clear h1 b3;go_wp2_with fail;refine(kW _).mono ?_;rintro e w5 ⟨rfl,rfl⟩;go_upto_region 4 with fail;have a8:4<j.heap.size:=ab (ab (show 4<14 by decide) T.glo) (by omega);obtain⟨ob,ol,b2,c8,b1,C⟩:=T.rdr
       have a3:ob<j.heap.size:=by omega
       have b0:∀y,Below j j y->(Instr.lookup 189 (.map (some ob)) (.string (bs l)) false).run prog y=.ok (.func (.func (RB k)) #[] #[]) y:=fun y u=>by
        rw[mM underlying189 underlying9 (Tryz.zeroRdr y) (b1.block (u.block ob a3)) l false,C l];unfold Fv;rw[Hk];rfl
       have a6:=O b0;clear b1 C b0
       have S:A<j.heap.size:=by omega
       have c7:g<j.heap.size:=by omega
       have a7:B<=j.drew.heap.size:=by show B<=j.heap.size;omega
       have a9:g<=j.drew.heap.size:=by show g<=j.heap.size;omega
       have a5:=O (P.drew);have L:Below j j j.drew:=(TH _ _).drew;have a4:=O (vM.go H4 L);have Q:=O (b6.below L);have N:=O (T.below (L.mono (by omega)));have b4:=sV b7 L;have c2:=O b4;clear L b4;by_cases b5:ws.length=0
       .obtain rfl:ws=[]:=aX.1 b5
        refine gS 8 [(0,true),(1,true),(2,true),(3,true),(4,true),(5,true),(6,true),(7,true)] (by kernel_rfl) (by kernel_rfl) ?_
        iterate 8
         refine gU (v:=?_) ?_ ?_;rotate_left
         .intro y u
          have k1:=(u.cell (p:=J 4) a8).trans b2;have k2:=(u.cell (p:=J A) S).trans X;have k3:=a6 y (gJ (k:=1) u);go_simp;with_reducible rfl
         try simp only[V]
        refine iu rfl ?_;have E:=uJ k w;go_wp2_with fail;clear E;refine(uI w a4 z H9 ⟨rfl,aa _,fun h0=>absurd h0 (by simp)⟩ (fun s hs=>Hl s (au _ hs)) Hn hc a7 Q N a9).mono ?_;rintro e w6 n;have b:=mf n a5 (by omega);clear n
        cases hh:jk r.x k []with
        |none=>
         rw[hh]at b
         obtain ⟨q,o,_⟩|⟨_,rfl⟩:=b.2.2
         .cases o
         .have a:pI (At B g) g c D r (l::[]) W iX w6:=⟨b.1,b.2.1,VS ⟨(i.1 z).trans (by rw[hh];rfl),rfl⟩⟩
          clear b hh;unfold iX at a⊢;have d:=O a;clear a;go_wp2_with fail;exact⟨rfl,d⟩
        |some y=>
         rw[hh]at b
         obtain ⟨q,o,rfl,D',h4,h5⟩|⟨o,_⟩:=id b.2.2
         .have M:kp r (l::[])=some ⟨y,(k:Int),[]⟩:=(i.1 z).trans (by rw[hh];rfl)
          have a:=qg (k:=k) (y:=y) b M c0;obtain⟨f',v',s',k',m',K,a1⟩:=h5;obtain⟨a0,c3⟩:=K.cell 9
          change w6.cell? ⟨g,9,none⟩=some (.int .i64 r.at_)at a0
          have d:=O a;clear a b M a1 K h4 hh o X d9;go_wp2_with fail;go_end0;exact d
         .cases o
       .have d0:¬ws=[]:=fun e=>b5 (by rw[e];rfl)
        have d8:(1:Int)<=(ws.length:Int)+1:=by omega
        refine gS 8 [(0,true),(1,true),(2,true),(3,true),(4,true),(5,true),(6,true),(7,true)] (by kernel_rfl) (by kernel_rfl) ?_
        iterate 8
         refine gU (v:=?_) ?_ ?_;rotate_left
         .intro y u
          have k1:=(u.cell (p:=J 4) a8).trans b2;have k2:=(u.cell (p:=J A) S).trans X;have k3:=a6 y (gJ (k:=1) u);go_simp;with_reducible rfl
         try simp only[V]
        refine iu rfl ?_;have E:=uJ k w;go_wp2_with fail;clear E;refine(uI w a4 z H9 (by have:=Ay c2;simpa using this) (fun s hs=>Hl s (au _ hs)) Hn hc a7 Q N a9).mono ?_;rintro e w6 n;have b:=mf n a5 (by omega);clear n
        cases hh:jk r.x k ws with
        |none=>
         rw[hh]at b
         obtain ⟨q,o,_⟩|⟨_,rfl⟩:=b.2.2
         .cases o
         .have a:pI (At B g) g c D r (l::ws) W iX w6:=⟨b.1,b.2.1,VS ⟨(i.1 z).trans (by rw[hh];rfl),rfl⟩⟩
          clear b hh;unfold iX at a⊢;have d:=O a;clear a;go_wp2_with fail;exact⟨rfl,d⟩
        |some y=>
         rw[hh]at b
         obtain ⟨q,o,rfl,D',h4,h5⟩|⟨o,_⟩:=id b.2.2
         .have M:kp r (l::ws)=some ⟨y,(k:Int),[]⟩:=(i.1 z).trans (by rw[hh];rfl)
          have a:=qg (k:=k) (y:=y) b M c0;obtain⟨f',v',s',k',m',K,a1⟩:=h5;obtain⟨a0,c3⟩:=K.cell 9
          change w6.cell? ⟨g,9,none⟩=some (.int .i64 r.at_)at a0
          have d:=O a;clear a b M a1 K h4 hh o X d9;go_wp2_with fail;go_end0;exact d
         .cases o
      .have c4:(5:Int)<=(k:Int):=by omega
       have t:pI (At B g) g c D r (l::ws) W iX j:=lT (i.2 (by unfold sX;omega)) P (by omega);clear i;unfold iX at t;have F:=O t;clear t;have H1:=O h1;clear h1;go_wp2_with fail;refine(lm _).mono ?_;rintro e w5 ⟨rfl,rfl⟩;unfold iX;go_wp2_with fail;exact⟨rfl,F⟩
     .have c4:(5:Int)<=(k:Int):=by omega
      have t:pI (At B g) g c D r (l::ws) W iX j:=lT (i.2 (by unfold sX;omega)) P (by omega);clear i;unfold iX at t;have F:=O t;clear t;have H1:=O h1;clear h1;go_wp2_with fail;refine(lm _).mono ?_;rintro e w5 ⟨rfl,rfl⟩;unfold iX;go_wp2_with fail;exact⟨rfl,F⟩
    .have c4:¬(5:Int)<=(k:Int):=by omega
     have t:pI (At B g) g c D r (l::ws) W iX j:=lT (i.2 (by unfold sX;omega)) P (by omega);clear i;unfold iX at t;have F:=O t;clear t;have H1:=O h1;clear h1;go_wp2_with fail;refine(lm _).mono ?_;rintro e w5 ⟨rfl,rfl⟩;unfold iX;go_wp2_with fail;exact⟨rfl,F⟩
  |none=>
   unfold Lj;by_cases h7:r.at_=7
   .have hr:=IL (ws:=ws) h7 hk
    have Hr:=O hr;have Hk:=O hk;clear hr hk;have H7:=O h7;rw[h7]at d9;clear h7;go_wp2_with fail;have hp:=H4.out;unfold At at hp;refine(L6 (ws:=ws) (by rw[<- H7];exact hp) H7 b7 Hl Hn hc (by omega) b6 T (by omega)).mono ?_;rintro e w5 n;have b:=mf n P (by omega);have a:pI (At B g) g c D r (l::ws) W e w5:=Az (by rw[H7,Hr];exact b) (fun q hq=>by rw[Hr]at hq;rw[H7];exact Og hq);have he:=AA n;clear n b hp
    obtain rfl|rfl:=he
    .have d:=O a;clear a
     go_wp2_with fail;go_end0;exact d
    .unfold iX at a⊢
     have d:=O a;clear a;go_wp2_with fail;exact⟨rfl,d⟩
   .have d2:(r.at_==7)=false:=by rw[ak];exact h7
    by_cases h8:r.at_=8
    .by_cases b9:l=lj
     .subst b9
      have hr:=DR (ws:=ws) h8;have Hr:=O hr;have Hk:=O hk;clear hr hk h7 d2;have H8:=O h8;rw[h8]at d9;clear h8
      have d7:(bs lj==({data:=#[99,104,97,110,103,101]}:ByteArray))=true:=by decide
      go_wp2_with fail;have hp:=H4.out;unfold At at hp;refine(FT (ws:=ws) (by rw[<- H8];exact hp) H8 b7 Hl Hn hc (by omega) b6 T (by omega)).mono ?_;rintro e w5 n;have b:=mf n P (by omega);have a:pI (At B g) g c D r (lj::ws) W e w5:=Az (by rw[H8,Hr];exact b) (fun q hq=>by rw[Hr]at hq;rw[H8];exact IM hq);have he:=AA n;clear n b hp
      obtain rfl|rfl:=he
      .have d:=O a;clear a
       go_wp2_with fail;go_end0;exact d
      .unfold iX at a⊢
       have d:=O a;clear a;go_wp2_with fail;exact⟨rfl,d⟩
     .have t:pI (At B g) g c D r (l::ws) W iX j:=lT (yt H9 h7 (fun h=>b9 h.2) hk) P (by omega)
      have d7:(l==[99,104,97,110,103,101])=false:=by rw[ak];exact b9
      rw[h8]at d9;clear hk h7 d2 h8 b9;unfold iX at t;have F:=O t;clear t;go_wp2_with fail;refine(lm _).mono ?_;rintro e w5 ⟨rfl,rfl⟩;unfold iX;go_wp2_with fail;exact⟨rfl,F⟩
    .have t:pI (At B g) g c D r (l::ws) W iX j:=lT (yt H9 h7 (fun h=>h8 h.1) hk) P (by omega)
     have e5:(r.at_==8)=false:=by rw[ak];exact h8
     clear hk h7 h8;unfold iX at t;have F:=O t;clear t;go_wp2_with fail;refine(lm _).mono ?_;rintro e w5 ⟨rfl,rfl⟩;unfold iX;go_wp2_with fail;exact⟨rfl,F⟩
def RF(B g:Nat):vD B g (At B g) where
 lens:=by
  rintro c D r W ⟨f,v,s,k,m,e,d⟩;exact⟨f,v,s,k,m,e,d.lensAt⟩
 own:=by
  rintro c D r W b ⟨f,v,s,k,m,e,d⟩ l;exact d.own b l
 kept:=by
  intro c D r W W' h p u;exact vM.keep h p u
 read:=by
  intro c D r W ws A h hw a q t n i o j
  match ws,a with
  |[],a=>exact absurd rfl a
  |fw::ws,_=>exact L9 h hw q (by rw[aH]at t;omega) n i o j
def vE(t w)(c:GW w)(b:TW w w)(a:jY w w)(d:t.length<=100000):Calls prog 18 #[.string (bs t)] w (ye w (nr t)):=
 LH (Rd:=At (w+8) (w+3)) t w (RF _ _) (fun W h=>NX (by omega) h) c b a d
section
def UC:∀l:List UInt8,(∀b∈l,b≠32)->Ur l=l
 |[],_=>rfl
 |b::l,h=>by
  have a:(b==32)=false:=ak.2 (h b aG);rw[Ur,a,aj (by simp),UC l (fun d c=>h d (au _ c))]
def Uy:∀(n:Nat)(l:List UInt8),l.length<=n->replaceK [32] [32,32,32] (count l [32]) l=Ur l
 |n,l,hn=>by
  obtain h|⟨A,f,h,rfl⟩:=Il 32 l
  .rw[count_miss (tY 32 l h),UC l h];rfl
  .match n,hn with
   |0,hn=>simp at hn
   |n+1,hn=>
    rw[Fl 32 h,fA,replaceK_hit [32] [32,32,32] _ _ A.length (xn 32 A f h),List.take_left];rw[show A.length+([32]:List UInt8).length=A.length+1 from rfl,<- eE,List.drop_left];rw[show List.drop 1 (32::f)=f from rfl,Uy n f (by simp at hn;omega),UG,UC A h];simp[Ur]
def UH(l):replaceAll l [32] [32,32,32]=Ur l:=by
 unfold replaceAll replace replaceNum;rw[aj (by decide),aq (VR (by decide)),Uy l.length l (aa _)]
def UQ(c):∀(n:Nat)(l:List UInt8),l.length<=n->count l [c]<=l.length
 |n,l,hn=>by
  obtain h|⟨A,f,h,rfl⟩:=Il c l
  .rw[count_miss (tY c l h)];omega
  .match n,hn with
   |0,hn=>simp at hn
   |n+1,hn=>
    have:=UQ c n f (by simp at hn;omega);rw[Fl c h,al,aH];omega
def VP(l):trimSuffix (l++[10]) [10]=l:=by
 unfold trimSuffix hasSuffix;rw[aq (by simp)];simp
def Vb:∀L:List (List UInt8),join L [10]=Uj L
 |[]=>rfl
 |[x]=>by simp[join,Uj]
 |x::y::l=>by
  have:=Vb (y::l);rw[Uj,<- this];simp[join]
end
def Vi(l w)(a:l.length<=1000000):Calls prog 28 #[.string (bs (l++[10])),.string {data:=#[10]}] w (iZ w (.string (bs l))):=by
 refine(Tryz.strings_TrimSuffix (bs (l++[10])) (bs [10]) w (by rw[lE,al];simp;omega)).mono ?_;rintro e w' ⟨rfl,rfl⟩;refine⟨?_,TH _ _⟩
 show Ending.returned (.string (bs (Lib.trimSuffix (l++[10]) [10])))=_
 rw[VP]
def VC(l w)(b:GW w)(f:l.length<=1000000):Calls prog 29 #[.string (bs l),.string {data:=#[32]},.string {data:=#[32,32,32]}] w (iZ w (.string (bs (Ur l)))):=by
 obtain⟨m,c⟩:=b.m;have d:=UQ 32 l.length l (aa _);refine(Tryz.strings_ReplaceAll (bs l) (bs [32]) (bs [32,32,32]) m w (by rw[lE];omega) c (by decide) (by rw[lE,lE,show Lib.countB (bs l) (bs [32])=Lib.count l [32]from rfl];simp;omega)).mono ?_;rintro e w' ⟨rfl,a⟩;refine⟨?_,a⟩
 show Ending.returned (.string (bs (Lib.replaceAll l [32] [32,32,32])))=_
 rw[UH]
def Va(L b c w)(f:w.heap[b]? =some (.cells (ji L).toArray 9))(m:L.length<=c)(k:L.length<=1000000)(l:(Uj L).length<=1000000):
 Calls prog 31 #[Z (J b) L.length c,.string {data:=#[10]}] w (iZ w (.string (bs (Uj L)))):=by
 have a:∀(j:Nat) x,(L.map bs)[j]? =some x->w.cell? ⟨b,0+j,none⟩=some (.string x):=by
  intro j x g;rw[aR]at g;obtain⟨y,i,rfl⟩:=gj.1 g;rw[aV,gA f j,bo];unfold ji;rw[aR,i];rfl
 have d:(L.map bs).map (·.data.toList)=L:=by rw[dD];exact fY (fun x=>rfl) _
 have key:=Tryz.strings_Join b 0 c (L.map bs) {data:=#[10]} w a (TK f) (by rw[aU];omega) (by rw[aU];omega) (by rw[d];show(Lib.join L [10]).length<=_;rw[Vb];omega);rw[aU,d]at key;refine key.mono ?_;rintro e w' ⟨rfl,h⟩;refine⟨?_,h⟩
 show Ending.returned (.string (bs (Lib.join L [10])))=_
 rw[Vb]
def BW(R b:Nat)(l:List UInt8)(w:World):Prop:=
 b<R/\ ∃p v,(p=.pointer none\/p=.pointer (J b))/\w.heap[b]? =some (.cells #[p,v] 86 (0,0))/\w.ownsRow R 5 1 v l.length (Lib.byteCells l)
structure BF (R b:Nat) (w w':World):Prop where
 lo:Below b w w'
 mid:∀k,b<k->k<R->w'.heap[k]? =w.heap[k]?
def BF.refl(R b w):BF R b w w:=⟨TH _ _,fun _ _ _=>rfl⟩
def BF.trans{R b w c d}(h:BF R b w c)(a:BF R b c d):BF R b w d:=⟨h.lo.trans a.lo,fun k h1 h2=>(a.mid k h1 h2).trans (h.mid k h1 h2)⟩
def Vy(w b p v)(a:w.heap[b]? =some (.cells #[p,v] 86 (0,0))):(convert 84 198 (.pointer (J b))).run prog w=.ok (.pointer (J b)) w:=by
 obtain⟨i,hi⟩:∃i,prog.info? 86=some i/\i.size≠0:=by
  have h:(prog.info? 86).any (fun i=>decide (i.size≠0))=true:=by kernel_rfl
  cases hi:prog.info? 86 with
  |none=>rw[hi]at h;cases h
  |some i=>rw[hi]at h;exact⟨i,rfl,by simpa using h⟩
 exact Lib.run_to_unsafe (e:=86) (cells:=2) _ _ underlying84 underlying198 hi.1 hi.2 (by simp[World.shape?,a]) (by show 0<2;omega)
def U9(w b p v)(a:w.heap[b]? =some (.cells #[p,v] 86 (0,0))):(convert 198 84 (.pointer (J b))).run prog w=.ok (.pointer (J b)) w:=by
 obtain⟨i,hi⟩:∃i,prog.info? 86=some i:=by
  have h:(prog.info? 86).isSome=true:=by kernel_rfl
  exact eL.1 h
 exact Lib.run_from_unsafe (e:=86) (cells:=2) _ _ underlying198 underlying84 hi (by simp[World.shape?,a]) (by kernel_rfl)
def U3(R b l w)(h:BW R b l w):
 Calls prog 62 #[U b] w fun e w'=>e=.returned (.tuple #[])/\(∃v,w'.heap[b]? =some (.cells #[U b,v] 86 (0,0))/\w'.ownsRow R 5 1 v l.length (Lib.byteCells l))/\BF R b w w':=by
 obtain⟨h1,p,v,g,h2,h3⟩:=h
 have d:v.ownBlock≠some b:=fun e=>by have:=(h3.lt b e).1;omega
 obtain rfl|rfl:=g
 .have c0:=gA h2 0
  have f0:=gD h2 0;have k1:=Vy w b _ _ h2;have j:=U9 w b _ _ h2;have i:=DC (.pointer (J b)) w;have a:=O h2;have c:=O h3;clear h2 h3;go_enter func62,ntmps62;go_wp2_with fail;go_end0;exact⟨rfl,⟨v,gG a 0 _,rE c d 0 _⟩,(TH b w).setCell (p:=J b) (aa _) _,fun k f _=>TI _ _ _ _ (Nat.ne_of_gt f)⟩
 .have c0:=gA h2 0
  have i:=NO w b;have a:=O h2;have c:=O h3;clear h2 h3;go_enter func62,ntmps62;go_wp2_with fail;go_end0;exact⟨rfl,⟨v,a,c⟩,BF.refl _ _ _⟩
def Vm(R b l c w)(h:BW R b l w)(hl:l.length<=1000000)(X:R<=w.heap.size):
 Calls prog 26 #[U b,.int .u8 c.toNat] w fun e w'=>e=.returned .nilIface/\BW R b (l++[c]) w'/\BF R b w w':=by
 obtain⟨P,hi,H,K,L⟩:=info_parts RC;have S:(Lib.byteCells l).length=l.length:=Lib.byteCells_length l;have C:=h.1;go_enter func26,ntmps26;go_wp2_with fail;refine(U3 R b _ w h).mono ?_;rintro e r ⟨rfl,⟨v,h2,h3⟩,i⟩
 have M:v.ownBlock≠some b:=fun e=>by have:=(h3.lt b e).1;omega
 have c1:=gA h2 1;have hlt:=TK h2;have T:=i.lo.size
 go_wp2_with(at_builtin;refine wpList_append_own _ rfl _ _ 24 rfl R 5 P (.int .u8 0) 1 1 underlying24 hi H K L rfl (by decide) _ _ _ rfl (h3.alloc _) (J (r.heap.size)) 1 1 [.int .u8 c.toNat] rfl rfl ?c1 ?c2 ?c3 ?c4 ?c5 ?_)
 case c1=>
  intro j u t
  match j,t with
  |0,t=>simp at t;subst t;simp[Addr.add]
 case c2=>intro u F;simp at F;subst F;rfl
 case c3=>unfold maxLen;omega
 case c4=>omega
 case c5=>simp;omega
 intro f n d a _;have E:=a.size;simp at E
 have o:n.heap[b]? =some (.cells #[U b,v] 86 (0,0)):=by
  rw[a.block b (by simp;omega) (fun e=>M e.symm),Lib.alloc_old r _ b hlt];exact h2
 have W:=gA o 1;have f1:=gD o 1
 have q:∀k,k<R->n.heap[k]? =r.heap[k]? :=fun k N=>by
  rw[a.block k (by simp;omega) (fun e=>by have:=(h3.lt k e.symm).1;omega),Lib.alloc_old r _ k (by omega)]
 have x:Below b w (n.setCell ⟨b,1,none⟩ f):=by
  have D:Below b r n:=⟨a.os,a.tape,a.output,by omega,fun k N=>q k (by omega)⟩;exact(i.lo.trans D).setCell (p:=⟨b,1,none⟩) (aa _) f
 have y:BF R b w (n.setCell ⟨b,1,none⟩ f):=⟨x,fun k h1 h2=>(TI _ _ _ _ (Nat.ne_of_gt h1)).trans ((q k h2).trans (i.mid k h1 h2))⟩
 have m:BW R b (l++[c]) (n.setCell ⟨b,1,none⟩ f):=by
  refine⟨C,_,f,VS rfl,gG o 1 _,?_⟩
  have h5:f.ownBlock≠some b:=fun e=>by have:=(d.lt b e).1;omega
  rw[al,Lib.byteCells_append];exact rE d h5 1 _
 obtain⟨B,n',cap,rfl⟩:∃B n' cap,f=.slice B n' cap:=by
  obtain ⟨z,_⟩|⟨g,cap,Q,z,_⟩:=d.2
  .exact⟨_,_,_,z⟩
  .exact⟨_,_,_,z⟩
 have A:=O y;have s:=O m;clear x m y i d a h3 c1 q h2;go_wp2_with fail;go_ret;exact⟨rfl,s,A⟩
def UY{T e B b xs w w'}(h:Lib.IsBuilderF T e B b xs w)(c:w'.heap[b]? =w.heap[b]?)(d:∀(k:Nat)(cs:Array Value)(a:Nat×Nat),w.heap[k]? =some (.cells cs e a)->w'.heap[k]? =w.heap[k]?):Lib.IsBuilderF T e B b xs w':=by
 have key:∀p,Lib.BuilderAtF T e B b p xs w->Lib.BuilderAtF T e B b p xs w':=fun p ⟨hB,v,hv,hown,hne⟩=>by
  refine⟨hB,v,c.trans hv,⟨hown.1,?_⟩,hne⟩
  obtain h|⟨g,cap,cur,a,h1,h2,h3,rest⟩:=hown.2
  .exact VR h
  .exact VS ⟨g,cap,cur,a,h1,h2,(d _ _ _ h3).trans h3,rest⟩
 obtain h|h:=h
 .exact VR (key _ h)
 .exact VS (key _ h)
def BW.f{R b l w}(h:BW R b l w):Lib.IsBuilderF 86 5 b b (Lib.byteCells l) w:=by
 obtain⟨h1,p,v,c,h2,h3⟩:=h
 have a:v.ownBlock≠some b:=fun e=>by have:=(h3.lt b e).1;omega
 have h5:Lib.BuilderAt 86 5 b b p (Lib.byteCells l) w:=⟨aa _,v,h2,by rw[Lib.byteCells_length];exact h3.mono (by omega),a⟩;refine Lib.IsBuilderF.of ?_
 obtain rfl|rfl:=c
 .exact VR h5
 .exact VS h5
structure Vl (D:List (List UInt8)) (gl b:Nat) (cm:List UInt8) (w0 W:World):Prop where
 ne:b<gl
 ln:W.heap[gl]? =some (.cells (ji D).toArray 9)
 bd:Lib.IsBuilderF 86 5 b b (Lib.byteCells cm) W
 lo:Below b w0 W
 sz:b<=W.heap.size
def Vl.go{D:List (List UInt8)}{gl b:Nat}{c:List UInt8}{w0 W W':World}(h:Vl D gl b c w0 W)(a:Below W W W'):Vl D gl b c w0 W' where
 ne:=h.ne
 ln:=(a.block _ (TK h.ln)).trans h.ln
 bd:=UY h.bd (a.block _ (Nat.lt_trans h.ne (TK h.ln))) (fun k cs e d=>a.block k (TK d))
 lo:=h.lo.trans (a.mono h.sz)
 sz:=af h.sz a.size
def Vl.str{D:List (List UInt8)}{gl b:Nat}{a:List UInt8}{w0 W W':World}(h:Vl D gl b a w0 W)(hf:Lib.IsBuilderF 86 5 b b (Lib.byteCells a) W')(d:Below b W W')(f:Lib.OthersKept 5 (some b) W W'):Vl D gl b a w0 W' where
 ne:=h.ne
 ln:=f gl _ h.ln (fun e=>by have:=h.ne;cases e;omega) (fun c g e=>by cases e)
 bd:=hf
 lo:=h.lo.trans d
 sz:=af h.sz d.size
def Vl.set{D:List (List UInt8)}{gl b:Nat}{a:List UInt8}{w0 W:World}(h:Vl D gl b a w0 W)(k:Nat)(d:List UInt8):Vl (D.set k d) gl b a w0 (W.setCell ⟨gl,k,none⟩ (.string (bs d))) where
 ne:=h.ne
 ln:=by
  have:=gG h.ln k (.string (bs d));rw[this];simp[ji,List.map_set]
 bd:=UY h.bd (TI _ _ _ _ (fun e=>by have:=h.ne;simp at e;omega)) (fun k' cs f c=>TI _ _ _ _ (fun e=>by
  simp at e;subst e
  rw[h.ln]at c;cases c))
 lo:=h.lo.setCell (p:=⟨gl,k,none⟩) (cE h.ne) _
 sz:=by simpa using h.sz
def Vl.at{D gl b c w0 W}(h:Vl D gl b c w0 W){k}(a:k<D.length):W.cell? ⟨gl,k,none⟩=some (.string (bs (D.getD k [])))/\W.frozen? ⟨gl,k,none⟩=false:=by
 refine⟨?_,gD h.ln k⟩;rw[gA h.ln k,bo];unfold ji;rw[aR,ae a,ah,ae a];rfl
def U8(b l w)(h:Lib.IsBuilderF 86 5 b b (Lib.byteCells l) w)(a:b<=w.heap.size):
 Calls prog 30 #[U b] w fun e w'=>e=.returned (.string (bs l))/\Lib.IsBuilderF 86 5 b b (Lib.byteCells l) w'/\Below b w w'/\Lib.OthersKept 5 (some b) w w':=
 Any.Builder_String_any_k Tryz.lays169 Tryz.Builder_Extra_169 b b l w h a
def Uu(a:List UInt8)(i:Nat)(D:List (List UInt8))(k:Nat):List (List UInt8):=if i=0 then Up D k else if i=1 then Us D k else Uw a D k
def Uk(a:List UInt8)(C:List (List UInt8))(p:Nat->Nat):Nat->List (List UInt8)
 |0=>C
 |i+1=>Uu a i (Uk a C p i) (p i)
def Ve(a i D k):(Uu a i D k).length=D.length:=by
 unfold Uu Up Us Uw;split
 .exact dL
 .split<;>exact dL
def Ul(a C)(p:Nat->Nat):∀i,(Uk a C p i).length=C.length
 |0=>rfl
 |i+1=>by rw[Uk,Ve,Ul a C p i]
def Vs{x C a}(p:Nat->Nat)(h:nr (Uj (Uw a (Us (Up C (p 0)) (p 1)) (p 2)))=⟨x,0,0⟩/\(Uj (Uw a (Us (Up C (p 0)) (p 1)) (p 2))).length<=14000/\(Uj (Us (Up C (p 0)) (p 1))).length<=14000/\(Uj (Up C (p 0))).length<=14000):
 nr (Uj (Uk a C p 3))=⟨x,0,0⟩/\(Uj (Uk a C p 3)).length<=14000/\(Uj (Uk a C p 2)).length<=14000/\(Uj (Uk a C p 1)).length<=14000:=h
def DQ(x:gR):List UInt8:=if x.i6=0 then lQ else iz x.i6 6
def G(x:gR):Nat->List UInt8
 |0=>iF [xZ,kb x.nm]
 |1=>iF [sO,DQ x]
 |2=>iF [vA,iz x.p9 6]
 |3=>iF [Aa,iz x.stop 0]
 |4=>iF [qJ,iz x.prim 0]
 |5=>((List.range (x.fs.length/2)).map (nE x.fs)).flatten
 |6=>((List.range (x.ws.length/2)).map (qK x.ws)).flatten
 |7=>(x.l.map oq).flatten
 |8=>(x.cf.map ot).flatten
 |_=>iF [Fp]
def yr(x):nO x=G x 0++G x 1++G x 2++G x 3++G x 4++G x 5++G x 6++G x 7++G x 8++G x 9:=rfl
structure yQ (B:Nat) (x:gR) (f v s k:iJ) (l:List UInt8) (w W:World):Prop where
 l9:hU W w 37 x f v s k
 b:Lib.IsBuilder 108 5 B B (Lib.byteCells l) W
 be:Below w w W
 lo:w.heap.size<B
 hi:B<W.heap.size
def yQ.next{B x f v s k l l' w W d e}(h:yQ B x f v s k l w W)(a:Below W W d)(h2:L7 B B l' d (.returned (.tuple #[])) e):yQ B x f v s k l' w e:=by
 obtain⟨_,h3,c,_⟩:=h2;have j:=a.size;have i:=c.size;have b:=h.lo;have g:=h.hi;exact⟨(c.block _ b).trans ((a.block _ h.l9.lt).trans h.l9),h3,(h.be.trans (a.mono (by omega))).trans (c.mono (by omega)),b,by omega⟩
def yQ.go{B x f v s k l w W c}(h:yQ B x f v s k l w W)(a:Below W W c):yQ B x f v s k l w c:=by
 have g:=a.size;have e:=h.hi;have d:=h.lo;exact⟨(a.block _ h.l9.lt).trans h.l9,iq h.b a,h.be.trans (a.mono (by omega)),d,by omega⟩
def Cz{α:Type}(f:α->List UInt8)(l:List α){k y}(h:l[k]? =some y):(((l.take k).map f).flatten).length+(f y).length<=((l.map f).flatten).length:=by
 have a:l=l.take k++y::l.drop (k+1):=by
  have:=yO h;rw[<- this,cA]
 have e:((l.map f).flatten).length=(((l.take k).map f).flatten).length+((f y).length+(((l.drop (k+1)).map f).flatten).length):=by
  conv=>lhs;rw[a]
  simp
 omega
def CA{α:Type}(f:α->List UInt8)(l:List α){k y}(h:l[k]? =some y):((l.take (k+1)).map f).flatten=((l.take k).map f).flatten++f y:=by
 rw[mn h,aT,cG];simp
def wI(x:gR):Value:=.tuple #[.string (bs (if iI x=true then nO x else[])),.int .i64 (if iI x=true then 0 else 120)]
def CB(x f v s k w)(hx:iP (fun b=>b<w.heap.size) w x f v s k)(hg:GW w)(hP:jY w w)(hT:TW w w)(u:iI x=true->(nO x).length<=1000000):
 Calls prog 11 #[jG x f v s k] w (iZ w (wI x)):=by
 obtain⟨F,fn,fc⟩:=f;obtain⟨H,t,E⟩:=v;obtain⟨sa,sn,D⟩:=s;obtain⟨K,kn,C⟩:=k;have c:=(TH w w).alloc (aa _) (.cells (iw x ⟨F,fn,fc⟩ ⟨H,t,E⟩ ⟨sa,sn,D⟩ ⟨K,kn,C⟩).toArray 37);have f3:hU (w.alloc (.cells (iw x ⟨F,fn,fc⟩ ⟨H,t,E⟩ ⟨sa,sn,D⟩ ⟨K,kn,C⟩).toArray 37)) w 37 x ⟨F,fn,fc⟩ ⟨H,t,E⟩ ⟨sa,sn,D⟩ ⟨K,kn,C⟩:=TL w _;have Hx:=O hx;have Hg:=O hg;have HP:=O hP;have HT:=O hT;have e4:=O u;have b1:=O c;have e5:=O f3;clear hx hg hP hT u c f3;unfold jG;go_enter func11,ntmps11;go_upto_region 1 with fail;refine gI (fun wx=>hU wx w 37 x ⟨F,fn,fc⟩ ⟨H,t,E⟩ ⟨sa,sn,D⟩ ⟨K,kn,C⟩/\Below w w wx) ⟨e5,b1⟩ ?_;clear e5 b1;rintro w1 ⟨h9,i9⟩;have H9:=O h9;have c9:=O i9;have m5:=h9.lt;clear h9 i9;have h7:=zw x ⟨F,fn,fc⟩ ⟨H,t,E⟩ ⟨sa,sn,D⟩ ⟨K,kn,C⟩ w1 (Hx.go c9) ((HP.below c9).mono c9.size);unfold jG at h7;have h4:=O h7;clear h7
 cases hv:iI x with
 |false=>
  have hr:wI x=.tuple #[.string {data:=#[]},.int .i64 120]:=by unfold wI;rw[hv];rfl
  have he:err (iI x) 120=.int .i64 120:=by rw[hv];rfl
  have Hr:=O hr;have He:=O he;clear hr he hv
  go_wp2_with(first
   |(refine it H9 rfl (.tmp 1) rfl rfl ?_)
   |(refine h4.mono ?_;rintro e d ⟨rfl,d6⟩;rw[He];have d0:=O d6;clear d6))
  go_ret2;exact⟨by rw[Hr];rfl,I c9 d0⟩
 |true=>
  have hr:wI x=.tuple #[.string (bs (nO x)),oZ]:=by unfold wI;rw[hv];rfl
  have he:err (iI x) 120=.int .i64 0:=by rw[hv];rfl
  have f5:=uH hv;have hl:=e4 hv
  have f6:(G x 0).length+(G x 1).length+(G x 2).length+(G x 3).length+(G x 4).length+(G x 5).length+(G x 6).length+(G x 7).length+(G x 8).length+(G x 9).length<=1000000:=by
   rw[yr]at hl;simp only[al]at hl;omega
  have Hr:=O hr;have He:=O he;have M:=O f5;have B:=O f6;clear hr he f5 hl f6 hv e4
  go_upto_region 4 with(first
   |(refine it H9 rfl (.tmp 1) rfl rfl ?_)
   |(refine h4.mono ?_;rintro e d ⟨rfl,d6⟩;rw[He];have d0:=O d6;clear d6))
  have hw:yQ d x ⟨F,fn,fc⟩ ⟨H,t,E⟩ ⟨sa,sn,D⟩ ⟨K,kn,C⟩ [] w (d.alloc (.cells #[.pointer none,oN] 108)):=by
   have i5:=I c9 d0;have hs:=d0.size;refine⟨((TH d d).alloc (aa _) _|>.block _ (by omega)).trans ((d0.block _ m5).trans H9),VR ⟨aa _,oN,TL d _,World.ownsRow_nil _ _ _ _,by intro e;cases e⟩,gY i5,by omega,by simp⟩
  have Hw:=O hw;clear hw;go_upto_region 5 with fail;refine gI (fun wx=>yQ d x ⟨F,fn,fc⟩ ⟨H,t,E⟩ ⟨sa,sn,D⟩ ⟨K,kn,C⟩ [] w wx) Hw ?_;clear Hw H9 d0 c9 h4 HP He;rintro w3 e3;have d5:=O e3;clear e3;obtain⟨q,c8⟩:∃q,kb x.nm=q:=⟨_,rfl⟩
  have b6:x.nm=bs q:=by rw[<- c8,qO]
  have l7:w3.cell? (J (w.heap.size))=some (.string (bs q)):=by rw[<- b6];exact gA d5.l9 0
  have k0:G x 0=iF [xZ,q]:=by show iF [xZ,kb x.nm]=_;rw[c8]
  have g3:=O k0;clear k0 c8 b6;go_wp2_with fail;have c:Below w3 w3 (w3.alloc (.cells (ji [xZ,q]).toArray 9)):=(TH _ _).alloc (aa _) _;clear l7;refine(kL [xZ,q] w3 2 d d ([]) _ (TL w3 _) (by simp) (by simp) (by have:=B.out;have:=ai List.length g3;(try simp only[al,cI]);omega) (iq d5.b c) (by have:=d5.hi;have:=(c).size;omega)).mono ?_;rintro P w4 h2;obtain rfl:=jz h2;have a:=d5.next c h2;rw[<- g3]at a;have b2:=O (show yQ d x ⟨F,fn,fc⟩ ⟨H,t,E⟩ ⟨sa,sn,D⟩ ⟨K,kn,C⟩ (G x 0) w w4 from a);clear h2 a d5 g3;clear c;have l8:w4.cell? ⟨w.heap.size,1,none⟩=some (.int .i64 x.i6):=gA b2.l9 1;have X:=M.i6
  go_upto_if 32 with fail
  go_cut [6] (fun v6 wx=>v6=.string (bs (DQ x))/\yQ d x ⟨F,fn,fc⟩ ⟨H,t,E⟩ ⟨sa,sn,D⟩ ⟨K,kn,C⟩ (G x 0) w wx)
  case first=>
   by_cases f2:x.i6=0
   .have ho:DQ x=lQ:=by unfold DQ;rw[aq f2]
    have m4:¬(0:Int) <x.i6:=by omega
    have Ho:=O ho;clear ho f2;go_wp2_with fail;go_meet;exact⟨by rw[Ho];rfl,b2⟩
   .have ho:DQ x=iz x.i6 6:=by unfold DQ;rw[aj f2]
    have m4:(0:Int) <x.i6:=by omega
    have Ho:=O ho;clear ho f2
    go_wp2_with(refine(js x.i6 6 w4 (by omega) (by omega) (by omega) (Hg.of b2.be HT.glo)).mono ?_;rintro P wa ⟨rfl,r⟩;have Q:=O r;clear r)
    go_meet;exact⟨by rw[Ho],b2.go Q⟩
  case rest=>
   obtain⟨rfl,e3⟩:=hcut;have a7:=O e3;clear e3 l8 X b2;have d7:G x 1=iF [sO,DQ x]:=rfl;have g4:=O d7;clear d7;go_wp2_with fail;have c:Below wc wc (wc.alloc (.cells (ji [sO,DQ x]).toArray 9)):=(TH _ _).alloc (aa _) _;refine(kL [sO,DQ x] wc 2 d d (G x 0) _ (TL wc _) (by simp) (by simp) (by have:=B.out;have:=ai List.length g4;(try simp only[al,cI]);omega) (iq a7.b c) (by have:=a7.hi;have:=(c).size;omega)).mono ?_;rintro P w5 h2;obtain rfl:=jz h2;have a:=a7.next c h2;rw[<- g4]at a;have a8:=O (show yQ d x ⟨F,fn,fc⟩ ⟨H,t,E⟩ ⟨sa,sn,D⟩ ⟨K,kn,C⟩ (G x 0++G x 1) w w5 from a);clear h2 a a7 g4;clear c;have m0:w5.cell? ⟨w.heap.size,2,none⟩=some (.int .i64 x.p9):=gA a8.l9 2;have d8:G x 2=iF [vA,iz x.p9 6]:=rfl;have g5:=O d8;clear d8;have X:=M.p9
   go_wp2_with(refine(js x.p9 6 w5 (by omega) (by omega) (by omega) (Hg.of a8.be HT.glo)).mono ?_;rintro P wa ⟨rfl,r⟩;have Q:=O r;clear r)
   have c:Below w5 w5 (wa.alloc (.cells (ji [vA,iz x.p9 6]).toArray 9)):=Q.alloc Q.size _;clear m0 X;refine(kL [vA,iz x.p9 6] wa 2 d d (G x 0++G x 1) _ (TL wa _) (by simp) (by simp) (by have:=B.out;have:=ai List.length g5;(try simp only[al,cI]);omega) (iq a8.b c) (by have:=a8.hi;have:=(c).size;omega)).mono ?_;rintro P w6 h2;obtain rfl:=jz h2;have a:=a8.next c h2;rw[<- g5]at a;have a9:=O (show yQ d x ⟨F,fn,fc⟩ ⟨H,t,E⟩ ⟨sa,sn,D⟩ ⟨K,kn,C⟩ (G x 0++G x 1++G x 2) w w6 from a);clear h2 a a8 g5;clear c Q;have m1:w6.cell? ⟨w.heap.size,3,none⟩=some (.int .i64 x.stop):=gA a9.l9 3;have k5:G x 3=iF [Aa,iz x.stop 0]:=rfl;have g6:=O k5;clear k5;have X:=M.stop
   go_wp2_with(refine(js x.stop 0 w6 (by omega) (by omega) (by omega) (Hg.of a9.be HT.glo)).mono ?_;rintro P wa ⟨rfl,r⟩;have Q:=O r;clear r)
   have c:Below w6 w6 (wa.alloc (.cells (ji [Aa,iz x.stop 0]).toArray 9)):=Q.alloc Q.size _;clear m1 X;refine(kL [Aa,iz x.stop 0] wa 2 d d (G x 0++G x 1++G x 2) _ (TL wa _) (by simp) (by simp) (by have:=B.out;have:=ai List.length g6;(try simp only[al,cI]);omega) (iq a9.b c) (by have:=a9.hi;have:=(c).size;omega)).mono ?_;rintro P w7 h2;obtain rfl:=jz h2;have a:=a9.next c h2;rw[<- g6]at a;have b0:=O (show yQ d x ⟨F,fn,fc⟩ ⟨H,t,E⟩ ⟨sa,sn,D⟩ ⟨K,kn,C⟩ (G x 0++G x 1++G x 2++G x 3) w w7 from a);clear h2 a a9 g6;clear c Q;have m2:w7.cell? ⟨w.heap.size,4,none⟩=some (.int .i64 x.prim):=gA b0.l9 4;have k6:G x 4=iF [qJ,iz x.prim 0]:=rfl;have g7:=O k6;clear k6;have X:=M.prim
   go_wp2_with(refine(js x.prim 0 w7 (by omega) (by omega) (by omega) (Hg.of b0.be HT.glo)).mono ?_;rintro P wa ⟨rfl,r⟩;have Q:=O r;clear r)
   have c:Below w7 w7 (wa.alloc (.cells (ji [qJ,iz x.prim 0]).toArray 9)):=Q.alloc Q.size _;clear m2 X;refine(kL [qJ,iz x.prim 0] wa 2 d d (G x 0++G x 1++G x 2++G x 3) _ (TL wa _) (by simp) (by simp) (by have:=B.out;have:=ai List.length g7;(try simp only[al,cI]);omega) (iq b0.b c) (by have:=b0.hi;have:=(c).size;omega)).mono ?_;rintro P w8 h2;obtain rfl:=jz h2;have a:=b0.next c h2;rw[<- g7]at a;have e6:=O (show yQ d x ⟨F,fn,fc⟩ ⟨H,t,E⟩ ⟨sa,sn,D⟩ ⟨K,kn,C⟩ (G x 0++G x 1++G x 2++G x 3++G x 4) w w8 from a);clear h2 a b0 g7;clear c Q;have cl:w8.cell? ⟨w.heap.size,5,none⟩=some (.slice F fn fc):=gA e6.l9 5;have d3:x.fs.length=fn*2:=Hx.fs.1
   have a5:x.fs.length/2=fn:=by omega
   have j8:fn<=fc:=Hx.fs.2.1;clear d3;have j7:fn<=1000000:=Hx.fn;have a1:=O a5;clear a5;go_wp2_with fail
   go_loopw [8,61] (fun v8 W wr=>∃j:Nat,j<=fn/\W=.int .i64 (j:Int)/\yQ d x ⟨F,fn,fc⟩ ⟨H,t,E⟩ ⟨sa,sn,D⟩ ⟨K,kn,C⟩ (G x 0++G x 1++G x 2++G x 3++G x 4++((List.range j).map (nE x.fs)).flatten) w wr) (fun _ W _=>fn-(intOf W).toNat)
   case atStart=>exact⟨0,aA _,rfl,by simpa using e6.out⟩
   case round=>
    obtain⟨j,hj,rfl,o⟩:=hrel;have g:=O o;clear o cl;by_cases b4:j<fn
    .obtain⟨b,off,rfl,m3,z0,z1⟩:=((Hx.fs.ir (N:=w.heap.size) (fun _ h=>h)).below g.be (aa _)).at2 b4
     have X:=M.fs j (by have:=a1.out;omega);have c3:nE x.fs j=iF [vB,iz (x.fs.getD (j*2) 0) 6,iz (x.fs.getD (j*2+1) 0) 6]:=rfl;have R:=rT (nE x.fs) (k:=j) (n:=fn) b4;have b8:=O c3;have d4:=O R;clear c3 R;generalize x.fs.getD (j*2) 0=q0 at*;generalize x.fs.getD (j*2+1) 0=q1 at*;go_wp2_with fail;have b5:=TL wr (.cells #[q0,q1] 112);have c:Below wr wr (wr.alloc (.cells #[q0,q1] 112)):=(TH _ _).alloc (aa _) _;have e0:=gA b5 0;have e1:=gA b5 1;have c5:=TK b5;have b1:=O c;clear b5 c z0 z1;go_upto_region 16 with fail;have c4:GW wr:=Hg.of g.be HT.glo;have b9:=O c4;clear c4;refine gS 8 [(0,true),(1,true),(2,true),(4,true),(5,true),(3,false),(6,false),(7,false)] (by kernel_rfl) (by kernel_rfl) ?_
     iterate 5
      refine gU (v:=?_) ?_ ?_;rotate_left
      .intro y T
       have k1:=(T.cell (p:=J (wr.heap.size)) c5).trans e0;have k2:=(T.cell (p:=⟨wr.heap.size,1,none⟩) c5).trans e1;go_simp;with_reducible rfl
      try simp only[V]
     clear e0 e1;refine gP (fun KK m=>?_);go_simp;refine(js q0 6 _ (by omega) (by omega) (by omega) (b9.below b1.drew)).mono ?_;rintro P wa ⟨rfl,r⟩;refine m _ _ r ?_;clear m KK;have a3:=b1.drew.trans (r.mono b1.drew.size);(try simp only[V]);refine gP (fun KK m=>?_);go_simp;refine(js q1 6 wa (by omega) (by omega) (by omega) (b9.below a3)).mono ?_;rintro P wb ⟨rfl,a4⟩;refine m _ _ a4 ?_;clear m KK;have z:=I a3 a4;(try simp only[V]);refine gP (fun KK m=>?_);go_simp;refine m _ _ ((TH _ _).alloc (aa _) _) ?_;clear m KK;(try simp only[V]);refine iu rfl ?_;have c1:Below wr wr (wb.alloc (.cells (ji [vB,iz q0 6,iz q1 6]).toArray 9)):=z.alloc z.size _
     have u:(G x 0++G x 1++G x 2++G x 3++G x 4++((List.range j).map (nE x.fs)).flatten).length+(iF [vB,iz q0 6,iz q1 6]).length<=1000000:=by
      have h8:(G x 5).length=(((List.range fn).map (nE x.fs)).flatten).length:=by show(((List.range (x.fs.length/2)).map (nE x.fs)).flatten).length=_;rw[a1]
      have h9:=d4.out;have f0:=B.out;rw[b8]at h9;simp only[al];omega
     have a0:=O c1;clear c1 a3 z r a4;go_wp2_with fail;refine(kL [vB,iz q0 6,iz q1 6] wb 3 d d (G x 0++G x 1++G x 2++G x 3++G x 4++((List.range j).map (nE x.fs)).flatten) _ (TL wb _) (by simp) (by simp) u (iq g.b a0) (af (cE g.hi) a0.size)).mono ?_;rintro P w9 h2;obtain rfl:=jz h2;have a:=g.next a0 h2;rw[<- b8,aC,<- qk]at a;have A:=O a;clear a h2;go_wp2_with fail
     go_roundw
     case rel=>exact⟨j+1,by omega,by go_num,A⟩
     case measure=>simp[intOf];omega
    .obtain rfl:fn=j:=by omega
     have o:=g.out
     have e:G x 5=((List.range fn).map (nE x.fs)).flatten:=by show((List.range (x.fs.length/2)).map (nE x.fs)).flatten=_;rw[a1]
     have e7:=O (show yQ d x ⟨F,fn,fc⟩ ⟨H,t,E⟩ ⟨sa,sn,D⟩ ⟨K,kn,C⟩ (G x 0++G x 1++G x 2++G x 3++G x 4++G x 5) w wr by rw[e];exact o);clear e;clear o g;have cl:wr.cell? ⟨w.heap.size,6,none⟩=some (.slice H t E):=gA e7.l9 6;have d3:x.ws.length=t*2:=Hx.ws.1
     have a5:x.ws.length/2=t:=by omega
     have j8:t<=E:=Hx.ws.2.1;clear d3;have j7:t<=1000000:=Hx.wn;have a1:=O a5;clear a5;go_wp2_with fail
     go_loopw [10,78] (fun v8 W wr=>∃j:Nat,j<=t/\W=.int .i64 (j:Int)/\yQ d x ⟨F,fn,fc⟩ ⟨H,t,E⟩ ⟨sa,sn,D⟩ ⟨K,kn,C⟩ (G x 0++G x 1++G x 2++G x 3++G x 4++G x 5++((List.range j).map (qK x.ws)).flatten) w wr) (fun _ W _=>t-(intOf W).toNat)
     case atStart=>exact⟨0,aA _,rfl,by simpa using e7.out⟩
     case round=>
      obtain⟨j,hj,rfl,o⟩:=hrel;have g:=O o;clear o cl;by_cases b4:j<t
      .obtain⟨b,off,rfl,m3,z0,z1⟩:=((Hx.ws.ir (N:=w.heap.size) (fun _ h=>h)).below g.be (aa _)).at2 b4
       have X:=M.ws j (by have:=a1.out;omega);have c3:qK x.ws j=iF [Ab,iz (x.ws.getD (j*2) 0) 3,iz (x.ws.getD (j*2+1) 0) 0]:=rfl;have R:=rT (qK x.ws) (k:=j) (n:=t) b4;have b8:=O c3;have d4:=O R;clear c3 R;generalize x.ws.getD (j*2) 0=q0 at*;generalize x.ws.getD (j*2+1) 0=q1 at*;go_wp2_with fail;have b5:=TL wr (.cells #[q0,q1] 63);have c:Below wr wr (wr.alloc (.cells #[q0,q1] 63)):=(TH _ _).alloc (aa _) _;have e0:=gA b5 0;have e1:=gA b5 1;have c5:=TK b5;have b1:=O c;clear b5 c z0 z1;go_upto_region 21 with fail;have c4:GW wr:=Hg.of g.be HT.glo;have b9:=O c4;clear c4;refine gS 8 [(0,true),(1,true),(2,true),(4,true),(5,true),(3,false),(6,false),(7,false)] (by kernel_rfl) (by kernel_rfl) ?_
       iterate 5
        refine gU (v:=?_) ?_ ?_;rotate_left
        .intro y T
         have k1:=(T.cell (p:=J (wr.heap.size)) c5).trans e0;have k2:=(T.cell (p:=⟨wr.heap.size,1,none⟩) c5).trans e1;go_simp;with_reducible rfl
        try simp only[V]
       clear e0 e1;refine gP (fun KK m=>?_);go_simp;refine(js q0 3 _ (by omega) (by omega) (by omega) (b9.below b1.drew)).mono ?_;rintro P wa ⟨rfl,r⟩;refine m _ _ r ?_;clear m KK;have a3:=b1.drew.trans (r.mono b1.drew.size);(try simp only[V]);refine gP (fun KK m=>?_);go_simp;refine(js q1 0 wa (by omega) (by omega) (by omega) (b9.below a3)).mono ?_;rintro P wb ⟨rfl,a4⟩;refine m _ _ a4 ?_;clear m KK;have z:=I a3 a4;(try simp only[V]);refine gP (fun KK m=>?_);go_simp;refine m _ _ ((TH _ _).alloc (aa _) _) ?_;clear m KK;(try simp only[V]);refine iu rfl ?_;have c1:Below wr wr (wb.alloc (.cells (ji [Ab,iz q0 3,iz q1 0]).toArray 9)):=z.alloc z.size _
       have u:(G x 0++G x 1++G x 2++G x 3++G x 4++G x 5++((List.range j).map (qK x.ws)).flatten).length+(iF [Ab,iz q0 3,iz q1 0]).length<=1000000:=by
        have h8:(G x 6).length=(((List.range t).map (qK x.ws)).flatten).length:=by show(((List.range (x.ws.length/2)).map (qK x.ws)).flatten).length=_;rw[a1]
        have h9:=d4.out;have f0:=B.out;rw[b8]at h9;simp only[al];omega
       have a0:=O c1;clear c1 a3 z r a4;go_wp2_with fail;refine(kL [Ab,iz q0 3,iz q1 0] wb 3 d d (G x 0++G x 1++G x 2++G x 3++G x 4++G x 5++((List.range j).map (qK x.ws)).flatten) _ (TL wb _) (by simp) (by simp) u (iq g.b a0) (af (cE g.hi) a0.size)).mono ?_;rintro P w9 h2;obtain rfl:=jz h2;have a:=g.next a0 h2;rw[<- b8,aC,<- qk]at a;have A:=O a;clear a h2;go_wp2_with fail
       go_roundw
       case rel=>exact⟨j+1,by omega,by go_num,A⟩
       case measure=>simp[intOf];omega
      .obtain rfl:t=j:=by omega
       have o:=g.out
       have e:G x 6=((List.range t).map (qK x.ws)).flatten:=by show((List.range (x.ws.length/2)).map (qK x.ws)).flatten=_;rw[a1]
       have e8:=O (show yQ d x ⟨F,fn,fc⟩ ⟨H,t,E⟩ ⟨sa,sn,D⟩ ⟨K,kn,C⟩ (G x 0++G x 1++G x 2++G x 3++G x 4++G x 5++G x 6) w wr by rw[e];exact o);clear e;clear o g;have cl:wr.cell? ⟨w.heap.size,7,none⟩=some (.slice sa sn D):=gA e8.l9 7;have a5:x.l.length=sn:=Hx.l.1;have j8:sn<=D:=Hx.l.2.1;have j7:sn<=1000000:=Hx.sn;have a1:=O a5;clear a5;go_wp2_with fail
       go_loopw [12,95] (fun v8 W wr=>∃j:Nat,j<=sn/\W=.int .i64 (j:Int)/\yQ d x ⟨F,fn,fc⟩ ⟨H,t,E⟩ ⟨sa,sn,D⟩ ⟨K,kn,C⟩ (G x 0++G x 1++G x 2++G x 3++G x 4++G x 5++G x 6++((x.l.take j).map oq).flatten) w wr) (fun _ W _=>sn-(intOf W).toNat)
       case atStart=>exact⟨0,aA _,rfl,by simpa using e8.out⟩
       case round=>
        obtain⟨j,hj,rfl,o⟩:=hrel;have g:=O o;clear o cl;by_cases b4:j<sn
        .obtain⟨b,off,y,cs,k8,hlt,T,⟨a2,L,c2,rfl,hz,j6,h6,i2⟩,hr⟩:=Hx.l.at b4
         simp only at k8;subst k8;have k7:=jb (S:=fun b=>b<w.heap.size) hr (gE g.be) hlt;have j9:=M.l y (aL T);have R:=Cz oq x.l T
         have u:(G x 0++G x 1++G x 2++G x 3++G x 4++G x 5++G x 6++((x.l.take j).map oq).flatten).length+(oq y).length<=1000000:=by
          have h8:(G x 7).length=((x.l.map oq).flatten).length:=rfl;have f0:=B.out;simp only[al];omega
         have Hr:=O k7;have l4:=O j9;have Hy:=O T;have Hz:=O (hz.ir (N:=w.heap.size) (fun _ h=>h));have a6:=O u;clear hr k7 j9 T hz R u h6 i2
         go_wp2_with(first
          |(refine lw Hr rfl (.tmp 97) rfl rfl ?_)
          |(refine lC y.s a2 L c2 _ rfl rfl (.tmp 12) (.tmp 98) rfl rfl rfl ?_)
          |(refine gO (Y.new _ y.s a2 L c2) rfl (.tmp 12) rfl rfl ?_))
         have c:Below wr wr (wr.alloc (.cells (⟨y.s,a2,L,c2⟩:jt) 70)):=(TH _ _).alloc (aa _) _;have c6:=g.go c;refine(DP y a2 L c2 d d w (G x 0++G x 1++G x 2++G x 3++G x 4++G x 5++G x 6++((x.l.take j).map oq).flatten) _ l4 ((Hz.below c6.be (aa _)).mono (cE c6.lo)) j6 c6.b (cE c6.hi) a6 (Hg.of c6.be HT.glo) (HT.below c6.be) (cE c6.lo)).mono ?_;rintro P w9 h2;obtain rfl:=jz h2;have a:=g.next c h2;rw[aC,<- CA oq x.l Hy]at a;have A:=O a;clear a h2 c6 c;go_wp2_with fail
         go_roundw
         case rel=>exact⟨j+1,by omega,by go_num,A⟩
         case measure=>simp[intOf];omega
        .obtain rfl:sn=j:=by omega
         have o:=g.out;rw[aM (by rw[a1];exact aa _)]at o;have e9:=O (show yQ d x ⟨F,fn,fc⟩ ⟨H,t,E⟩ ⟨sa,sn,D⟩ ⟨K,kn,C⟩ (G x 0++G x 1++G x 2++G x 3++G x 4++G x 5++G x 6++G x 7) w wr from o);clear o g;have cl:wr.cell? ⟨w.heap.size,8,none⟩=some (.slice K kn C):=gA e9.l9 8;have a5:x.cf.length=kn:=Hx.cf.1;have m9:kn<=C:=Hx.cf.2.1;have n6:kn<=1000000:=Hx.kn;have a1:=O a5;clear a5;go_wp2_with fail
         go_loopw [14,16,17,106] (fun v8 m6 m7 W wr=>∃j:Nat,j<=kn/\W=.int .i64 (j:Int)/\yQ d x ⟨F,fn,fc⟩ ⟨H,t,E⟩ ⟨sa,sn,D⟩ ⟨K,kn,C⟩ (G x 0++G x 1++G x 2++G x 3++G x 4++G x 5++G x 6++G x 7++((x.cf.take j).map ot).flatten) w wr) (fun _ _ _ W _=>kn-(intOf W).toNat)
         case atStart=>exact⟨0,aA _,rfl,by simpa using e9.out⟩
         case round=>
          obtain⟨j,hj,rfl,o⟩:=hrel;have g:=O o;clear o cl;by_cases b4:j<kn
          .obtain⟨b,off,y,cs,j4,hlt,T,⟨a2,L,c2,rfl,hz,j6,h6,i2⟩,hr⟩:=Hx.cf.at b4
           simp only at j4;subst j4;obtain⟨q,c8⟩:∃q,kb y.nm=q:=⟨_,rfl⟩
           have b6:y.nm=bs q:=by rw[<- c8,qO]
           have r0:wr.cell? ⟨b,off+j*2,none⟩=some (.string (bs q)):=by rw[<- b6];exact(g.be.cell (p:=⟨b,off+j*2,none⟩) hlt).trans (hr 0 _ rfl)
           have r1:wr.cell? ⟨b,off+j*2+1,none⟩=some (.slice a2 L c2):=(g.be.cell (p:=⟨b,off+j*2+1,none⟩) hlt).trans (hr 1 _ rfl)
           have i0:y.zs.length/3=L:=by have h1:y.zs.length=L*3:=hz.1;omega
           have n0:L<=c2:=hz.2.1;have X:=M.cf y (aL T);have R:=Cz ot x.cf T
           have i1:ot y=iF [mc,q]++((List.range L).map (mK y.zs)).flatten:=by
            show iF [mc,kb y.nm]++((List.range (y.zs.length/3)).map (mK y.zs)).flatten=_
            rw[c8,i0]
           have u:(G x 0++G x 1++G x 2++G x 3++G x 4++G x 5++G x 6++G x 7++((x.cf.take j).map ot).flatten).length+(iF [mc,q]).length+(((List.range L).map (mK y.zs)).flatten).length<=1000000:=by
            have h8:(G x 8).length=((x.cf.map ot).flatten).length:=rfl;have f0:=B.out;rw[i1,al]at R;simp only[al];omega
           have l3:=O i1;have Hy:=O T;have Hz:=O (hz.ir (N:=w.heap.size) (fun _ h=>h));have a6:=O u;have l5:=O X;have l2:=O i0;clear hr T hz R u h6 i2 i1 X c8 b6 i0;go_wp2_with fail;have d7:=TL wr (.cells #[.string (bs q),Z a2 L c2] 75);have c:Below wr wr ((wr.alloc (.cells #[.string (bs q),Z a2 L c2] 75)).alloc (.cells (ji [mc,q]).toArray 9)):=((TH _ _).alloc (aa _) _).alloc (by simp) _;have d8:((wr.alloc (.cells #[.string (bs q),Z a2 L c2] 75)).alloc (.cells (ji [mc,q]).toArray 9)).heap[wr.heap.size]? =some (.cells #[.string (bs q),Z a2 L c2] 75 (0,0)):=(alloc_old (by simp)).trans d7;refine(kL [mc,q] (wr+1) 2 d d (G x 0++G x 1++G x 2++G x 3++G x 4++G x 5++G x 6++G x 7++((x.cf.take j).map ot).flatten) _ (ku (by simp)) (by simp) (by simp) (by have:=a6.out;omega) (iq g.b c) (af (cE g.hi) c.size)).mono ?_;rintro P w9 h2;obtain rfl:=jz h2;have a:=g.next c h2;have n5:=g.hi;have d9:w9.heap[wr.heap.size]? =some (.cells #[.string (bs q),Z a2 L c2] 75 (0,0)):=h2.2.2.2 _ _ _ _ d8 (by decide) (by omega);have q1:w9.cell? ⟨wr.heap.size,1,none⟩=some (.slice a2 L c2):=gA d9 1;have l6:=O a;clear a h2 d7 d8 d9 c r0 r1;go_wp2_with fail
           go_loopw [16,17,118] (fun m6 m7 W wi=>∃i:Nat,i<=L/\W=.int .i64 (i:Int)/\yQ d x ⟨F,fn,fc⟩ ⟨H,t,E⟩ ⟨sa,sn,D⟩ ⟨some ⟨b,off,none⟩,kn,C⟩ (G x 0++G x 1++G x 2++G x 3++G x 4++G x 5++G x 6++G x 7++((x.cf.take j).map ot).flatten++iF [mc,q]++((List.range i).map (mK y.zs)).flatten) w wi) (fun _ _ W _=>L-(intOf W).toNat)
           case atStart=>exact⟨0,aA _,rfl,by simpa using l6.out⟩
           case round=>
            obtain⟨i,hi,rfl,k9⟩:=hrel;have c7:=O k9;clear k9 q1;by_cases j3:i<L
            .obtain⟨b3,n4,i7,m8,z0,z1,z2⟩:=(Hz.below c7.be (aa _)).at3 j3
             subst i7;obtain⟨g0,g1,g2⟩:=l5 i (by have:=l2.out;omega);obtain⟨pi,i3⟩:∃pi:Nat,y.zs.getD (i*3+1) 0=(pi:Int)+1:=⟨(y.zs.getD (i*3+1) 0-1).toNat,by omega⟩
             have f9:pi<17:=by omega
             have c3:mK y.zs i=iF [lj,iz (y.zs.getD (i*3) 0) 0,kO.getD pi [],iz (y.zs.getD (i*3+2) 0) (oo (pi+1))]:=by
              unfold mK km;rw[i3,show((pi:Int)+1).toNat=pi+1 by omega,cY]
             have R:=rT (mK y.zs) (k:=i) (n:=L) j3;rw[i3]at z1;have f4:=(HT.below (c7.go ((TH wr wr).alloc (aa _) (.cells #[.int .i64 (y.zs.getD (i*3) 0),.int .i64 ((pi:Int)+1),.int .i64 (y.zs.getD (i*3+2) 0)] 72))).be).par pi f9;have i8:=yP (pi+1)
             have n1:(pi:Int) <17:=by omega
             have n3:(0:Int)<=(pi:Int):=by omega
             have b8:=O c3;have d4:=O R;have i4:=O f4;clear c3 R f4 i3 g1;generalize y.zs.getD (i*3) 0=q0 at*;generalize y.zs.getD (i*3+2) 0=q2 at*;generalize kO.getD pi []=nmP at*;generalize oo (pi+1)=dg at*
             go_wp2_with(first
              |(refine qe (.tmp 125) rfl rfl rfl i4 ?_)
              |(refine mp (ku (by simp)) rfl rfl (.tmp 17) (.tmp 126) rfl rfl rfl ?_;intro w5 j0 d2;have j2:w5.heap[wr.heap.size]? =some (.cells #[q0,.int .i64 ((pi:Int)+1),q2] 72 (0,0)):=((d2 (wr+1) _ (aa _) ((TH _ _).alloc (by simp) _)).block _ (by omega)).trans (TL wr _);have f1:=d2 wr wr (by omega) (((TH _ _).alloc (aa _) _).alloc (by simp) _);have g9:=O j0;have h3:=O j2;have d1:=O f1;clear j0 d2 j2 f1))
             clear z0 z1 z2;have e0:=gA h3 0;have e2:=gA h3 2;have p0:=gA g9 0;have p1:=gA g9 1;have j5:=TK h3;have c5:=TK g9
             change w5.cell? (J (wr.heap.size))=some (.int .i64 q0)at e0
             change w5.cell? ⟨wr.heap.size,2,none⟩=some (.int .i64 q2)at e2
             change w5.cell? (J (wr+1))=some (.string (bs nmP))at p0
             change w5.cell? ⟨wr.heap.size+1,1,none⟩=some (.int .i64 (dg:Int))at p1
             go_upto_region 36 with fail;have c4:GW wr:=Hg.of c7.be HT.glo;have b9:=O c4;clear c4;refine gS 12 [(0,true),(1,true),(2,true),(4,true),(5,true),(6,true),(7,true),(8,true),(9,true),(3,false),(10,false),(11,false)] (by kernel_rfl) (by kernel_rfl) ?_
             iterate 9
              refine gU (v:=?_) ?_ ?_;rotate_left
              .intro y T
               have k1:=(T.cell (p:=J (wr.heap.size)) j5).trans e0;have k2:=(T.cell (p:=⟨wr.heap.size,2,none⟩) j5).trans e2;have k3:=(T.cell (p:=J (wr+1)) c5).trans p0;have k4:=(T.cell (p:=⟨wr.heap.size+1,1,none⟩) c5).trans p1;go_simp;with_reducible rfl
              try simp only[V]
             clear e0 e2 p0 p1;refine gP (fun KK m=>?_);go_simp;refine(js q0 0 _ (by omega) (by omega) (by omega) (b9.below d1.drew)).mono ?_;rintro P wa ⟨rfl,r⟩;refine m _ _ r ?_;clear m KK;have a3:=d1.drew.trans (r.mono d1.drew.size);(try simp only[V]);refine gP (fun KK m=>?_);go_simp;refine(js q2 dg wa (by omega) (by omega) i8 (b9.below a3)).mono ?_;rintro P wb ⟨rfl,a4⟩;refine m _ _ a4 ?_;clear m KK;have z:=I a3 a4;(try simp only[V]);refine gP (fun KK m=>?_);go_simp;refine m _ _ ((TH _ _).alloc (aa _) _) ?_;clear m KK;(try simp only[V]);refine iu rfl ?_;have c1:Below wr wr (wb.alloc (.cells (ji [lj,iz q0 0,nmP,iz q2 dg]).toArray 9)):=z.alloc z.size _
             have f8:(G x 0++G x 1++G x 2++G x 3++G x 4++G x 5++G x 6++G x 7++((x.cf.take j).map ot).flatten++iF [mc,q]++((List.range i).map (mK y.zs)).flatten).length+(iF [lj,iz q0 0,nmP,iz q2 dg]).length<=1000000:=by
              have h9:=d4.out;have f0:=a6.out;rw[b8]at h9;simp only[al]at*;omega
             have a0:=O c1;clear c1 a3 z r a4;go_wp2_with fail;refine(kL [lj,iz q0 0,nmP,iz q2 dg] wb 4 d d (G x 0++G x 1++G x 2++G x 3++G x 4++G x 5++G x 6++G x 7++((x.cf.take j).map ot).flatten++iF [mc,q]++((List.range i).map (mK y.zs)).flatten) _ (TL wb _) (by simp) (by simp) f8 (iq c7.b a0) (af (cE c7.hi) a0.size)).mono ?_;rintro P n7 h2;obtain rfl:=jz h2;have a:=c7.next a0 h2;rw[<- b8,aC,<- qk]at a;have f7:=O a;clear a h2;go_wp2_with fail
             go_roundw
             case rel=>exact⟨i+1,by omega,by go_num,f7⟩
             case measure=>simp[intOf];omega
            .obtain rfl:L=i:=by omega
             go_wp2_with fail
             go_roundw
             case rel=>
              refine⟨j+1,by omega,by go_num,?_⟩;have h5:=c7.out;rw[aC,aC,<- l3,<- aC]at h5;rw[CA ot x.cf Hy,<- aC];exact h5
             case measure=>simp[intOf];omega
          .obtain rfl:kn=j:=by omega
           have o:=g.out;rw[aM (by rw[a1];exact aa _)]at o;have A:=O (show yQ d x ⟨F,fn,fc⟩ ⟨H,t,E⟩ ⟨sa,sn,D⟩ ⟨K,kn,C⟩ (G x 0++G x 1++G x 2++G x 3++G x 4++G x 5++G x 6++G x 7++G x 8) w wr from o);clear o g;have d9:G x 9=iF [Fp]:=rfl;have g8:=O d9;clear d9;go_wp2_with fail;have c:Below wr wr (wr.alloc (.cells (ji [Fp]).toArray 9)):=(TH _ _).alloc (aa _) _;refine(kL [Fp] wr 1 d d (G x 0++G x 1++G x 2++G x 3++G x 4++G x 5++G x 6++G x 7++G x 8) _ (TL wr _) (by simp) (by simp) (by have:=B.out;have:=ai List.length g8;(try simp only[al,cI]);omega) (iq A.b c) (by have:=A.hi;have:=(c).size;omega)).mono ?_;rintro P w9 h2;obtain rfl:=jz h2;have a:=A.next c h2;rw[<- g8]at a;have b7:=O (show yQ d x ⟨F,fn,fc⟩ ⟨H,t,E⟩ ⟨sa,sn,D⟩ ⟨K,kn,C⟩ (G x 0++G x 1++G x 2++G x 3++G x 4++G x 5++G x 6++G x 7++G x 8++G x 9) w w9 from a);clear h2 a A g8
           go_wp2_with(refine(FJ d d (G x 0++G x 1++G x 2++G x 3++G x 4++G x 5++G x 6++G x 7++G x 8++G x 9) _ b7.b (by intro e;have h0:=ai List.length e;simp only[al,cI]at h0;have h1:(G x 9).length=4:=rfl;omega)).mono ?_;rintro P wz ⟨rfl,j1⟩;have l1:=O j1;clear j1)
           have c0:nO x=G x 0++(G x 1++(G x 2++(G x 3++(G x 4++(G x 5++(G x 6++(G x 7++(G x 8++G x 9)))))))):=by rw[yr];simp only[aC]
           have l0:=O c0;clear c0;go_ret2;exact⟨by rw[Hr,l0];rfl,b7.be.trans (l1.mono (cE b7.lo))⟩
def ui(t:Int):gM:=⟨⟨1,0,0,0,0,0,0,0,0,0,0,0,t,⟨#[]⟩,0,0,0,0,0,0,0⟩,[]⟩
def tq:gR:=⟨⟨#[70]⟩,0,10000000,0,0,[0,0,0,750000],[550000,1],[ui 10000000,ui 0],[]⟩
def jq:List (List UInt8):=[[108,101,110,115,32,70],[111,98,106,101,99,116,32,105,110,102,105,110,105,116,121],[112,117,112,105,108,32,49,48],[115,116,111,112,32,48],[112,114,105,109,97,114,121,32,48],[102,105,101,108,100,32,48,32,48],[102,105,101,108,100,32,48,32,48,46,55,53],[119,97,118,101,32,53,53,48,32,49],[115,117,114,102,97,99,101,32,115,116,97,110,100,97,114,100],[116,104,105,99,107,32,49,48],[115,117,114,102,97,99,101,32,115,116,97,110,100,97,114,100],[101,110,100]]
def rm(ss:List (List UInt8)):List UInt8:=(ss.map (· ++[10])).flatten
def wJ(i:Nat)(ws:List (List UInt8)):List UInt8:=rm (jq.take i++ws++jq.drop (i+1))
def IN:iI tq=true:=by kernel_rfl
def CC:nO tq=rm jq:=by kernel_rfl
def Ma:nr (rm jq)=⟨tq,0,0⟩:=by kernel_rfl
def wK:gR:={tq with l:=[{ui 10000000 with s:={(ui 10000000).s with curv:=10000000}},ui 0]}
def pU(t:List UInt8)(line:Int)(e:Int):Prop:=nr t=⟨mG,line,e⟩
def Mb:nr (wJ 9 [[116,104,105,99,107,32,49,48],[99,117,114,118,32,48,46,48,49]])=⟨wK,0,0⟩:=by kernel_rfl
def SI:pU (wJ 7 [[119,97,118,101,32,53,53,48,46,48,32,49]]) 8 5:=by unfold pU;kernel_rfl
def SJ:pU (wJ 9 [[116,104,105,99,107,32,49,48],[116,104,105,99,107,32,49,48]]) 11 5:=by unfold pU;kernel_rfl
def SK:pU (wJ 11 []) 12 5:=by unfold pU;kernel_rfl
def SM:pU (wJ 3 [[115,116,111,112,32,49]]) 0 120:=by unfold pU;kernel_rfl
def SN:pU [] 1 5:=by unfold pU;kernel_rfl
structure AB (N:Nat) (w w':World):Prop where
 f:w'.heap[N+1]? =some (.cells #[oZ,oZ,oZ,.int .i64 750000] 112 (0,0))
 v:w'.heap[N+2]? =some (.cells #[.int .i64 550000,.int .i64 1] 63 (0,0))
 s:w'.heap[N+3]? =some (.cells (gX (ui 10000000).s none 0 0++gX (ui 0).s none 0 0).toArray 70 (0,0))
 be:Below N w w'
 sz:w'.heap.size=N+4
def Ov(N:Nat):Value:=jG tq ⟨some ⟨N+1,0,none⟩,2,2⟩ ⟨some ⟨N+2,0,none⟩,1,1⟩ ⟨some ⟨N+3,0,none⟩,2,2⟩ ij
def FU(w:World)(a b c d):((((w.alloc a).alloc b).alloc c).alloc d).heap[w.heap.size]? =some a/\((((w.alloc a).alloc b).alloc c).alloc d).heap[w.heap.size+1]? =some b/\((((w.alloc a).alloc b).alloc c).alloc d).heap[w.heap.size+2]? =some c/\((((w.alloc a).alloc b).alloc c).alloc d).heap[w.heap.size+3]? =some d/\Below w w ((((w.alloc a).alloc b).alloc c).alloc d)/\((((w.alloc a).alloc b).alloc c).alloc d).heap.size=w.heap.size+4:=by
 have s1:(w.alloc a).heap.size=w.heap.size+1:=by simp
 have s2:((w.alloc a).alloc b).heap.size=w.heap.size+2:=by simp
 have e:(((w.alloc a).alloc b).alloc c).heap.size=w.heap.size+3:=by simp
 exact⟨(alloc_old (by omega)).trans ((alloc_old (by omega)).trans ((alloc_old (by omega)).trans (ku rfl))),(alloc_old (by omega)).trans ((alloc_old (by omega)).trans (ku s1)),(alloc_old (by omega)).trans (ku s2),ku e,gY (gY (gY (gY (TH _ _)))),by simp⟩
def AC(w):Calls prog 20 #[] w fun e w'=>e=.returned (Ov w)/\AB w w w':=by
 go_enter func20,ntmps20;go_wp2_with fail;obtain⟨a,b,c,d,f,g⟩:=FU w (.cells (iw tq ⟨some ⟨w.heap.size+1,0,none⟩,2,2⟩ ⟨some ⟨w.heap.size+2,0,none⟩,1,1⟩ ⟨some ⟨w.heap.size+3,0,none⟩,2,2⟩ ij).toArray 37) (.cells #[oZ,oZ,oZ,.int .i64 750000] 112) (.cells #[.int .i64 550000,.int .i64 1] 63) (.cells (gX (ui 10000000).s none 0 0++gX (ui 0).s none 0 0).toArray 70);refine ar (results_cell_row rfl _ _ w 37 _ (0,0) _ rfl a underlying37 rfl Tryz.infoLens) rfl ?_;exact⟨rfl,b,c,d,f,g⟩
def AB.lens{N w w'}(h:AB N w w'):iP (fun b=>N<=b/\b<w'.heap.size) w' tq ⟨some ⟨N+1,0,none⟩,2,2⟩ ⟨some ⟨N+2,0,none⟩,1,1⟩ ⟨some ⟨N+3,0,none⟩,2,2⟩ ij:=by
 have n:=h.sz
 refine⟨⟨rfl,aa _,fun _=>⟨N+1,0,rfl,⟨by omega,by omega⟩,fun j c=>?_⟩⟩,⟨rfl,aa _,fun _=>⟨N+2,0,rfl,⟨by omega,by omega⟩,fun j c=>?_⟩⟩,
  ⟨rfl,aa _,fun _=>⟨N+3,0,rfl,⟨by omega,by omega⟩,fun i y a=>?_⟩⟩,RR.nil _ _ _ _ _ _,by show(2:Nat)<=_;omega,by show(1:Nat)<=_;omega,by show(2:Nat)<=_;omega,by decide,fun e=>(by cases e),fun e=>(by cases e),by decide⟩
 .have k:j<4:=c
  match j,k with
  |0,_=>exact gA h.f 0
  |1,_=>exact gA h.f 1
  |2,_=>exact gA h.f 2
  |3,_=>exact gA h.f 3
  |j+4,c=>omega
 .have g:j<2:=c
  match j,g with
  |0,_=>exact gA h.v 0
  |1,_=>exact gA h.v 1
  |j+2,c=>omega
 .match i,a with
  |0,a=>
   cases a
   exact⟨_,⟨none,0,0,rfl,IRp.nil _ _ _ _ _,by decide,fun _=>rfl,by decide⟩,fun j v d=>by
    have l:=(TG.1 d).1;have m:j<22:=l;rw[gA h.s,bo]
    show(gX _ none 0 0++gX _ none 0 0)[0+0*22+j]? =_
    rw[show 0+0*22+j=j by omega,aF l];exact d⟩
  |1,a=>
   cases a
   exact⟨_,⟨none,0,0,rfl,IRp.nil _ _ _ _ _,by decide,fun _=>rfl,by decide⟩,fun j v d=>by
    rw[gA h.s,bo]
    show(gX _ none 0 0++gX _ none 0 0)[0+1*22+j]? =_
    rw[aY (by show 22<=_;omega)]
    show(gX _ none 0 0)[0+1*22+j-22]? =_
    rw[show 0+1*22+j-22=j by omega];exact d⟩
  |i+2,a=>cases a
