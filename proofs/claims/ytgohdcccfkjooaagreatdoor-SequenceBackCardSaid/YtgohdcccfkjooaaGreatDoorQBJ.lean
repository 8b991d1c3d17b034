import Derived.Test.YtgohdcccfkjooaaGreatDoorQBI
namespace Go.Proofs.YtgohdcccfkjooaaGreatDoor
set_option linter.all false
set_option maxRecDepth 100000
set_option maxHeartbeats 3200000
open Go.RowKit Go.Proofs.Tryz Go.Lib
def pm{lo hi l}(h:(!jr lo hi l)=true):∀x∈l,lo<=x/\x<=hi:=by
 intro x a;unfold jr at h;rw[di,du]at h;have:=h x a;simp at this;omega
def L8{s zs n}(h:oA s zs n=true):uU s=true/\uV s=true/\uW s=true:=by
 have h1:uX s zs n=true:=by unfold oA at h;simp at h;exact h.1
 exact⟨an.1 h1 1 (by simp),an.1 h1 2 (by simp),an.1 h1 3 (by simp)⟩
def uG{s zs n}(h:oA s zs n=true):(∀p:Int,-1000000000<=s.get p/\s.get p<=1000000000)/\(0<=s.hole/\s.hole<=1000000000)/\(-3<=s.order/\s.order<=3):=by
 obtain⟨h2,h3,a⟩:=L8 h;unfold uU at h2;unfold uV at h3;unfold uW at a;simp only[am]at h2 h3 a;have a1:=pm h2.1.1;have a2:=pm h2.1.2;have a3:=pm h2.2;have b1:=pm h3.1;have b2:=pm h3.2;have c1:=pm a.1;have c2:=pm a.2;simp only[ct,bi,false_implies,implies_true,and_true]at a1 a2 a3 b1 b2 c1 c2;refine⟨fun p=>?_,by omega,by omega⟩;unfold gW.get
 repeat' split
 all_goals omega
def wH{s zs n}(h:oA s zs n=true){k}(a:k<n):(0<=zs.getD (k*3) 0/\zs.getD (k*3) 0<=40000000)/\(0<=zs.getD (k*3+1) 0/\zs.getD (k*3+1) 0<=1000)/\(0<=zs.getD (k*3+2) 0/\zs.getD (k*3+2) 0<=1000):=by
 have h1:mP zs k=true:=by
  unfold oA at h;rw[am]at h;exact an.1 h.2 k (aJ.2 a)
 unfold mP oH at h1;simp only[am]at h1;have a1:=pm h1.1.1 _ (aK.2 rfl);have a2:=pm h1.1.2 _ (aK.2 rfl);have a3:=pm h1.2 _ (aK.2 rfl);omega
def qk(f:Nat->List UInt8)(k):((List.range (k+1)).map f).flatten=((List.range k).map f).flatten++f k:=by
 rw[bV,aT,cG];simp
def rT(f:Nat->List UInt8){k}:∀{n:Nat},k<n->((List.range k).map f).flatten.length+(f k).length<=((List.range n).map f).flatten.length
 |0,h=>by omega
 |n+1,h=>by
  rw[qk,al]
  by_cases e:k=n
  .subst e;omega
  .have:=rT f (k:=k) (n:=n) (by omega)
   omega
def Cx{g}(h:kb g=[]):g={data:=#[]}:=by
 obtain⟨d⟩:=g;have:d.toList=[]:=h;rw[Array.toList_eq_nil_iff.1 this]
def qO(g):bs (kb g)=g:=by
 obtain⟨d⟩:=g;rfl
def Bq(s:gW)(a n:Nat):List DO:=(List.range n).map fun i=>(km (a+i),oo (a+i),s.get ((a+i:Nat):Int))
def rU(s a n):rS (Bq s a n)=ub s a n:=by
 unfold rS Bq ub;rw[dD];rfl
def xv{N w g s a n c}(v:TW N w)(u:Y w g s a n c){zs m}(z:oA s zs m=true)(d k)(h1:1<=d)(h2:d+k<=18):∀i x,(Bq s d k)[i]? =some x->FQ w g 0 ((d-1)*3+i*3) x:=by
 intro i x e;unfold Bq at e;rw[aR]at e
 cases hi:(List.range k)[i]? with
 |none=>rw[hi]at e;cases e
 |some j=>
  obtain⟨h,f⟩:=TG.1 hi;rw[dt]at h;rw[List.getElem_range]at f;subst f;rw[hi]at e;cases e;have A:=(uG z).1 ((d+i:Nat):Int);have l:=v.par (d-1+i) (by omega);have y:=u.getP (p:=((d+i:Nat):Int)) (by omega) (by omega);refine⟨QB (d-1+i),Iv (d-1+i),?_,fun b k0 w=>JN _ (by omega) b k0 w,Cw _ (by omega),?_,yP _,by show _<=s.get _;omega,by show s.get _<=_;omega⟩
  .have o:(d-1)*3+i*3=(d-1+i)*3:=by rw[dB]
   have q:km (d+i)=kO.getD (d-1+i) []:=by unfold km;rw[show d+i-1=d-1+i by omega]
   have r:d-1+i+1=d+i:=by omega
   rw[o];rw[r]at l
   show w.rangeAt _ _ [.string (bs (km (d+i))),.int .i64 (oo (d+i):Int),_]
   rw[q];exact l
  .rw[Iw _ (by omega)]
   have t:((d-1+i:Nat):Int)+1=((d+i:Nat):Int):=by omega
   rw[t];exact y
structure FR (B bw bS:Nat) (s:gW) (a:Option Addr) (n c:Nat) (l:List UInt8) (w W:World):Prop where
 s:Y W bS s a n c
 b:Lib.IsBuilder 108 5 B bw (Lib.byteCells l) W
 be:Below B w W
 kt:kY bw w W
def FR.next{B e b s a n c l l' w W f g}(h:FR B e b s a n c l w W)(d:Below W W f)(h2:L7 B e l' f (.returned (.tuple #[])) g)(i:b≠e)(k:B<=w.heap.size):FR B e b s a n c l' w g:=by
 obtain⟨_,h3,j,h5⟩:=h2;have m:=h.be.size;exact⟨h5 b _ _ _ ((d.block b (TK h.s)).trans h.s) (by decide) i,h3,h.be.trans ((d.mono (af k m)).trans j),h.kt.trans ((kY.below d).trans h5)⟩
def FR.go{B g e s a n c l w W f}(h:FR B g e s a n c l w W)(d:Below W W f)(i:B<=w.heap.size):FR B g e s a n c l w f:=
 ⟨(d.block e (TK h.s)).trans h.s,iq h.b d,h.be.trans (d.mono (af i h.be.size)),h.kt.trans (kY.below d)⟩
def kL(ws g c B b l w)(h:w.heap[g]? =some (.cells (ji ws).toArray 9 (0,0)))(f:ws.length<=c)(k:ws.length<=1000000)(j:l.length+(iF ws).length<=1000000)(d:Lib.IsBuilder 108 5 B b (Lib.byteCells l) w)(a:B<=w.heap.size):
 Calls prog 41 #[U b,Z (J g) ws.length c] w (L7 B b (l++iF ws) w):=
 (Cv ws g 0 c B b l w (fun i x m=>by
   rw[aV,gA h i];unfold ji
   rw[bo,aR,m];rfl) (TK h) f k j d a).mono fun e w' h=>h
def jz{B b l w w' e}(h:L7 B b l w e w'):e=.returned (.tuple #[]):=h.1
def ib(x:gM):Nat->List UInt8
 |0=>iF [nq,kP.getD (x.s.kind-1).toNat []]
 |1=>ub x.s 1 10
 |2=>if x.s.hole=0 then[]else iF [lB,iz x.s.hole 6]
 |3=>ub x.s 11 5
 |4=>if x.s.order=0 then[]else iF [kj,iz x.s.order 0]
 |5=>ub x.s 16 2
 |6=>if kb x.s.glass=[]then[]else iF [lP,kb x.s.glass]
 |_=>((List.range (x.zs.length/3)).map (ms x.zs)).flatten
def uh(x):oq x=ib x 0++ib x 1++ib x 2++ib x 3++ib x 4++ib x 5++ib x 6++ib x 7:=rfl
def DP(x a n c u B N l w)(ho:tr x=true)(hz:IR B w 3 a n c x.zs)(hn:n<=1000000)(hb:Lib.IsBuilder 108 5 B u (Lib.byteCells l) w)(L:B<=w.heap.size)(hl:l.length+(oq x).length<=1000000)(hg:GW w)(hT:TW N w)(f:N<=B):
 Calls prog 43 #[U u,.agg (⟨x.s,a,n,c⟩:jt)] w (L7 B u (l++oq x) w):=by
 have f7:u<w.heap.size:=by
  obtain ⟨_,v,h,_⟩|⟨_,v,h,_⟩:=hb
  .exact TK h
  .exact TK h
 have f6:B<=u:=by
  obtain ⟨h,_⟩|⟨h,_⟩:=hb
  .exact h
  .exact h
 have t:=(TH w w).alloc (aa _) (.cells (⟨x.s,a,n,c⟩:jt) 70);have b3:FR B u w x.s a n c l w (w.alloc (.cells (⟨x.s,a,n,c⟩:jt) 70)):=⟨Y.new w x.s a n c,iq hb t,t.mono L,kY.below t⟩;have d1:oA x.s x.zs (x.zs.length/3)=true:=ho;obtain⟨e9,f0⟩:=vT d1;obtain⟨ki,d8,d3⟩:∃ki:Nat,x.s.kind=(ki:Int)+1/\ki<4:=⟨(x.s.kind-1).toNat,by omega,by omega⟩
 have d9:w.heap.size≠u:=by omega
 have a5:=O b3;have a4:=O d1;have Hz:=O hz;have Hl:=O hl;have Hg:=O hg;have q:=O hT;have d4:=O d8;have D:=O d9;clear b3 d1 ho hz hl hg hT t hb d8 d9 e9 f0
 go_enter func43,ntmps43
 go_upto_region 1 with fail
 refine gI (fun wx=>FR B u w x.s a n c l w wx) a5 ?_;clear a5;rintro w1 b3;obtain⟨ka,kn,kc,hk,c4⟩:=(q.below (b3.be.mono f)).kin;have b1:kn=4:=c4.1.symm;subst b1;obtain⟨kg,ko,rfl,f8,d7⟩:=c4.2.2 (by omega);obtain⟨kw,b4⟩:∃kw,kP.getD ki []=kw:=⟨_,rfl⟩
 have c6:w1.cell? ⟨kg,ko+ki,none⟩=some (.string (bs kw)):=by
  rw[<- b4]
  exact d7 ki _ (by
   have:ki<kP.length:=d3
   rw[ah,ae this];rfl)
 have k0:w1.cell? (J (w.heap.size))=some (.int .i64 ((ki:Int)+1)):=by rw[<- d4];exact b3.s.cells.1
 have f3:4<=kc:=c4.2.1
 have f4:(ki:Int) <4:=by omega
 have f5:(0:Int)<=(ki:Int):=by omega
 have h0:ib x 0=iF [nq,kw]:=by
  show iF [nq,kP.getD (x.s.kind-1).toNat []]=_
  rw[d4,show(ki:Int)+1-1=(ki:Int)by omega,aI,b4]
 have c5:l.length+(ib x 0).length+(ib x 1).length+(ib x 2).length+(ib x 3).length+(ib x 4).length+(ib x 5).length+(ib x 6).length+(ib x 7).length<=1000000:=by
  have:=Hl.out;rw[uh]at this;simp only[al]at this;omega
 have C:=O c5;have H0:=O h0;have a5:=O b3;clear d7 c4 b3 h0 c5 b4
 go_wp2_with fail
 refine(kL [nq,kw] w1 2 B u l _ (TL w1 _) (by simp) (by simp) (by have:=C.out;have:=ai List.length H0;omega) (iq a5.b ((TH _ _).alloc (aa _) _)) (by have:=a5.be.size;simp;omega)).mono ?_;rintro W w2 h2;obtain rfl:=jz h2;have d:=a5.next ((TH w1 w1).alloc (aa _) _) h2 D L;rw[<- H0]at d;have o:=O d;clear h2 d c6 k0 hk a5 H0
 go_wp2_with fail
 refine(pJ (Bq x.s 1 10) 0 0 10 17 w u B (l++ib x 0) w2 (xv (q.below (o.be.mono f)) o.s a4 1 10 (by omega) (by omega)) (by simp[Bq]) (by omega) (by omega) (Or.inl (ab (ab (show 0<14 by decide) q.glo) f)) (Or.inr ⟨_,_,_,o.s,by decide,D⟩) o.b (af L o.be.size) (by rw[rU];have:=C.out;simp only[al];show _+(ib x 1).length<=_;omega) (Hg.of o.be (af q.glo f)) (af q.glo f)).mono ?_;rintro W w3 h2;obtain rfl:=jz h2;have d:=o.next (TH w2 w2) h2 D L;rw[rU]at d;have z:=O (show FR B u w x.s a n c (l++ib x 0++ib x 1) w w3 from d);clear h2 d o
 have c9:(Instr.lookup 176 (.map (some (Classical.choose (q.below (z.be.mono f)).oth))) (.string {data:=#[104,111,108,101]}) false).run prog w3=.ok (.agg #[.string (bs lB),.int .i64 6,.func (.func 325) #[] #[]]) w3:=by
  obtain⟨ol,_,_,d0,X⟩:=dY (q.below (z.be.mono f)).oth;have:=mM underlying176 underlying9 (Tryz.zeroPar w3) d0 lB false;rw[X lB]at this;exact this
 have b6:w3.cell? (J 3)=some (.map (some (Classical.choose (q.below (z.be.mono f)).oth))):=by
  obtain⟨ol,h,_⟩:=dY (q.below (z.be.mono f)).oth;exact h
 generalize Classical.choose (q.below (z.be.mono f)).oth=ob at*
 go_wp2_with fail
 have t:Below w3 w3 (w3.alloc (.cells #[.string (bs lB),.int .i64 6,.func (.func 325) #[] #[]] 116)):=(TH _ _).alloc (aa _) _;have m:=z.go t L;have r:=TL w3 (.cells #[.string (bs lB),.int .i64 6,.func (.func 325) #[] #[]] 116);have hr:=uG a4
 have e:rS [(lB,6,x.s.hole)]=ib x 2:=by simp[rS,FP,ib]
 refine(pJ [(lB,6,x.s.hole)] w3 0 1 1 w u B (l++ib x 0++ib x 1) _ (fun i y S=>?_) rfl (by omega) (by omega) (Or.inr ⟨_,_,_,r,by decide,by have:=z.be.size;omega⟩) (Or.inr ⟨_,_,_,m.s,by decide,D⟩) m.b (af L m.be.size) (by rw[e];have:=C.out;simp only[al];omega) (Hg.of m.be (af q.glo f)) (af q.glo f)).mono ?_
 .match i,S with
  |0,S=>
   cases S;have pl:=Ax;refine⟨_,15,fun j v R=>?_,pl.call,pl.ent,gA m.s 15,by show 6<=18;omega,?_,?_⟩
   .match j,R with
    |0,R=>cases R;exact gA r 0
    |1,R=>cases R;exact gA r 1
    |2,R=>cases R;exact gA r 2
   .show _<=x.s.hole;omega
   .show x.s.hole<=_;omega
 .rintro W w4 h2
  obtain rfl:=jz h2;have d:=z.next t h2 D L;rw[e]at d;have E:=O (show FR B u w x.s a n c (l++ib x 0++ib x 1++ib x 2) w w4 from d);clear h2 d z m r t hr e c9 b6
  go_wp2_with fail
  refine(pJ (Bq x.s 11 5) 0 30 5 7 w u B (l++ib x 0++ib x 1++ib x 2) w4 (xv (q.below (E.be.mono f)) E.s a4 11 5 (by omega) (by omega)) (by simp[Bq]) (by omega) (by omega) (Or.inl (ab (ab (show 0<14 by decide) q.glo) f)) (Or.inr ⟨_,_,_,E.s,by decide,D⟩) E.b (af L E.be.size) (by rw[rU];have:=C.out;simp only[al];show _+(ib x 3).length<=_;omega) (Hg.of E.be (af q.glo f)) (af q.glo f)).mono ?_;rintro W w5 h2;obtain rfl:=jz h2;have d:=E.next (TH w4 w4) h2 D L;rw[rU]at d;have A:=O (show FR B u w x.s a n c (l++ib x 0++ib x 1++ib x 2++ib x 3) w w5 from d);clear h2 d E
  have c9:(Instr.lookup 176 (.map (some (Classical.choose (q.below (A.be.mono f)).oth))) (.string {data:=#[111,114,100,101,114]}) false).run prog w5=.ok (.agg #[.string (bs kj),oZ,.func (.func 326) #[] #[]]) w5:=by
   obtain⟨ol,_,_,d0,X⟩:=dY (q.below (A.be.mono f)).oth;have:=mM underlying176 underlying9 (Tryz.zeroPar w5) d0 kj false;rw[X kj]at this;exact this
  have b6:w5.cell? (J 3)=some (.map (some (Classical.choose (q.below (A.be.mono f)).oth))):=by
   obtain⟨ol,h,_⟩:=dY (q.below (A.be.mono f)).oth;exact h
  generalize Classical.choose (q.below (A.be.mono f)).oth=ob at*
  go_wp2_with fail
  have t:Below w5 w5 (w5.alloc (.cells #[.string (bs kj),oZ,.func (.func 326) #[] #[]] 116)):=(TH _ _).alloc (aa _) _;have m:=A.go t L;have r:=TL w5 (.cells #[.string (bs kj),oZ,.func (.func 326) #[] #[]] 116);have hr:=uG a4
  have e:rS [(kj,0,x.s.order)]=ib x 4:=by simp[rS,FP,ib]
  refine(pJ [(kj,0,x.s.order)] w5 0 1 1 w u B (l++ib x 0++ib x 1++ib x 2++ib x 3) _ (fun i y S=>?_) rfl (by omega) (by omega) (Or.inr ⟨_,_,_,r,by decide,by have:=A.be.size;omega⟩) (Or.inr ⟨_,_,_,m.s,by decide,D⟩) m.b (af L m.be.size) (by rw[e];have:=C.out;simp only[al];omega) (Hg.of m.be (af q.glo f)) (af q.glo f)).mono ?_
  .match i,S with
   |0,S=>
    cases S;have pl:=yq;refine⟨_,11,fun j v R=>?_,pl.call,pl.ent,gA m.s 11,by show 0<=18;omega,?_,?_⟩
    .match j,R with
     |0,R=>cases R;exact gA r 0
     |1,R=>cases R;exact gA r 1
     |2,R=>cases R;exact gA r 2
    .show _<=x.s.order;omega
    .show x.s.order<=_;omega
  .rintro W w6 h2
   obtain rfl:=jz h2;have d:=A.next t h2 D L;rw[e]at d;have F:=O (show FR B u w x.s a n c (l++ib x 0++ib x 1++ib x 2++ib x 3++ib x 4) w w6 from d);clear h2 d A m r t hr e c9 b6
   go_wp2_with fail
   refine(pJ (Bq x.s 16 2) 0 45 2 2 w u B (l++ib x 0++ib x 1++ib x 2++ib x 3++ib x 4) w6 (xv (q.below (F.be.mono f)) F.s a4 16 2 (by omega) (by omega)) (by simp[Bq]) (by omega) (by omega) (Or.inl (ab (ab (show 0<14 by decide) q.glo) f)) (Or.inr ⟨_,_,_,F.s,by decide,D⟩) F.b (af L F.be.size) (by rw[rU];have:=C.out;simp only[al];show _+(ib x 5).length<=_;omega) (Hg.of F.be (af q.glo f)) (af q.glo f)).mono ?_;rintro W w7 h2;obtain rfl:=jz h2;have d:=F.next (TH w6 w6) h2 D L;rw[rU]at d;have H:=O (show FR B u w x.s a n c (l++ib x 0++ib x 1++ib x 2++ib x 3++ib x 4++ib x 5) w w7 from d);clear h2 d F
   by_cases hgl:kb x.s.glass=[]
   .have d5:x.s.glass={data:=#[]}:=Cx hgl
    have e3:w7.cell? ⟨w.heap.size,13,none⟩=some (.string {data:=#[]}):=by rw[<- d5];exact gA H.s 13
    have h6:ib x 6=[]:=by show(if kb x.s.glass=[]then[]else _)=_;rw[aq hgl]
    have T:=O (show FR B u w x.s a n c (l++ib x 0++ib x 1++ib x 2++ib x 3++ib x 4++ib x 5++ib x 6) w w7 by rw[h6,bG];exact H);clear H hgl d5 h6
    have c3:x.zs.length/3=n:=by have:=Hz.1;omega
    have d2:w7.cell? ⟨w.heap.size,21,none⟩=some (.slice a n c):=gA T.s 21;have f1:n<=c:=Hz.2.1
    go_wp2_with fail
    go_loopw [45] (fun iv wr=>∃k:Nat,k<=n/\iv=.int .i64 (k:Int)/\FR B u w x.s a n c (l++ib x 0++ib x 1++ib x 2++ib x 3++ib x 4++ib x 5++ib x 6++((List.range k).map (ms x.zs)).flatten) w wr) (fun iv _=>n-(intOf iv).toNat)
    case atStart=>exact⟨0,aA _,rfl,by simpa using T.out⟩
    case round=>
     obtain⟨k,hk,rfl,c2⟩:=hrel;have K:=O c2;clear c2 d2
     by_cases b1:k<n
     .obtain⟨b,off,rfl,e5,z0,z1,z2⟩:=(Hz.below K.be (aa _)).at3 b1
      have f2:=wH a4 (k:=k) (by omega);have c0:ms x.zs k=iF [lG,iz (x.zs.getD (k*3) 0) 7,iz (x.zs.getD (k*3+1) 0) 0,iz (x.zs.getD (k*3+2) 0) 0]:=rfl;have b9:=rT (ms x.zs) (k:=k) (n:=n) b1;have b7:=O c0;have c7:=O b9;clear c0 b9;generalize x.zs.getD (k*3) 0=q0 at*;generalize x.zs.getD (k*3+1) 0=q1 at*;generalize x.zs.getD (k*3+2) 0=q2 at*
      go_wp2_with fail
      have P:=TL wr (.cells #[q0,q1,q2] 67);have t:Below wr wr (wr.alloc (.cells #[q0,q1,q2] 67)):=(TH _ _).alloc (aa _) _;have e0:=gA P 0;have e1:=gA P 1;have e2:=gA P 2;have b2:=TK P;have a1:=O t;clear P t z0 z1 z2
      go_upto_region 12 with fail
      have c1:GW wr:=Hg.of K.be (af q.glo f);have a3:=O c1;clear c1;refine gS 11 [(0,true),(1,true),(2,true),(4,true),(5,true),(7,true),(8,true),(3,false),(6,false),(9,false),(10,false)] (by kernel_rfl) (by kernel_rfl) ?_
      iterate 7
       refine gU (v:=?_) rfl (fun _ _ _ h=>h) (by rfl) ?_ ?_;rotate_left
       .intro y S
        have k1:=(S.cell (p:=J (wr.heap.size)) b2).trans e0;have k2:=(S.cell (p:=⟨wr.heap.size,1,none⟩) b2).trans e1;have k3:=(S.cell (p:=⟨wr.heap.size,2,none⟩) b2).trans e2;go_simp
        with_reducible rfl
       try simp only[V]
      clear e0 e1 e2;refine gP rfl rfl (fun Q g=>?_);go_simp;refine(js q0 7 _ (by omega) (by omega) (by omega) (a3.below a1.drew)).mono ?_;rintro W wa ⟨rfl,a8⟩;refine g _ _ a8 ?_;clear g Q;have a6:=a1.drew.trans (a8.mono a1.drew.size)
      try simp only[V]
      refine gP rfl rfl (fun Q g=>?_);go_simp;refine(js q1 0 wa (by omega) (by omega) (by omega) (a3.below a6)).mono ?_;rintro W wb ⟨rfl,a9⟩;refine g _ _ a9 ?_;clear g Q;have M:=I a6 a9
      try simp only[V]
      refine gP rfl rfl (fun Q g=>?_);go_simp;refine(js q2 0 wb (by omega) (by omega) (by omega) (a3.below M)).mono ?_;rintro W wc ⟨rfl,b0⟩;refine g _ _ b0 ?_;clear g Q;have a7:=I M b0
      try simp only[V]
      refine gP rfl rfl (fun Q g=>?_);go_simp;refine g _ _ ((TH _ _).alloc (aa _) _) ?_;clear g Q
      try simp only[V]
      refine iu rfl ?_;have b8:Below wr wr (wc.alloc (.cells (ji [lG,iz q0 7,iz q1 0,iz q2 0]).toArray 9)):=a7.alloc a7.size _
      have b5:(l++ib x 0++ib x 1++ib x 2++ib x 3++ib x 4++ib x 5++ib x 6++((List.range k).map (ms x.zs)).flatten).length+(iF [lG,iz q0 7,iz q1 0,iz q2 0]).length<=1000000:=by
       have h8:(ib x 7).length=(((List.range n).map (ms x.zs)).flatten).length:=by show(((List.range (x.zs.length/3)).map (ms x.zs)).flatten).length=_;rw[c3]
       have h9:=c7.out;have e4:=C.out;rw[b7]at h9;simp only[al];omega
      have a2:=O b8;clear b8 a6 M a7 a8 a9 b0
      go_wp2_with fail
      refine(kL [lG,iz q0 7,iz q1 0,iz q2 0] wc 4 B u (l++ib x 0++ib x 1++ib x 2++ib x 3++ib x 4++ib x 5++ib x 6++((List.range k).map (ms x.zs)).flatten) _ (TL wc _) (by simp) (by simp) b5 (iq K.b a2) (af L (af K.be.size a2.size))).mono ?_;rintro W w9 h2;obtain rfl:=jz h2;have d:=K.next a2 h2 D L;rw[<- b7,aC,<- qk]at d;have o:=O d;clear d h2
      go_wp2_with fail
      go_roundw
      case rel=>exact⟨k+1,by omega,by go_num,o⟩
      case measure=>simp[intOf];omega
     .obtain rfl:k=n:=by omega
      go_wp2_with fail
      go_end0;have hs:=K.out
      have e7:ib x 7=((List.range k).map (ms x.zs)).flatten:=by show((List.range (x.zs.length/3)).map (ms x.zs)).flatten=_;rw[c3]
      refine⟨rfl,?_,hs.be,hs.kt⟩;have hb:=hs.b;rw[uh,e7]
      try simp only[<- aC]
      try simp only[<- aC]at hb
      exact hb
   .obtain⟨gl,a0⟩:∃gl,kb x.s.glass=gl:=⟨_,rfl⟩
    have d6:x.s.glass=bs gl:=by rw[<- a0,qO]
    have e3:w7.cell? ⟨w.heap.size,13,none⟩=some (.string (bs gl)):=by rw[<- d6];exact gA H.s 13
    have c8:gl≠[]:=by rw[<- a0];exact hgl
    have e6:(gl==[])=false:=by rw[ak];exact c8
    have e8:gl.isEmpty=false:=by rw[List.isEmpty_eq_false_iff];exact c8
    have h6:ib x 6=iF [lP,gl]:=by show(if kb x.s.glass=[]then[]else iF [lP,kb x.s.glass])=_;rw[aj hgl,a0]
    have H6:=O h6;clear hgl h6 a0 d6
    go_wp2_with fail
    refine(kL [lP,gl] w7 2 B u (l++ib x 0++ib x 1++ib x 2++ib x 3++ib x 4++ib x 5) _ (TL w7 _) (by simp) (by simp) (by have:=C.out;have:=ai List.length H6;simp only[al];omega) (iq H.b ((TH _ _).alloc (aa _) _)) (by have:=H.be.size;simp;omega)).mono ?_;rintro W w8 h2;obtain rfl:=jz h2;have d:=H.next ((TH w7 w7).alloc (aa _) _) h2 D L;rw[<- H6]at d;have T:=O (show FR B u w x.s a n c (l++ib x 0++ib x 1++ib x 2++ib x 3++ib x 4++ib x 5++ib x 6) w w8 from d);clear h2 d e3 e6 e8 c8 H6 H
    have c3:x.zs.length/3=n:=by have:=Hz.1;omega
    have d2:w8.cell? ⟨w.heap.size,21,none⟩=some (.slice a n c):=gA T.s 21;have f1:n<=c:=Hz.2.1
    go_wp2_with fail
    go_loopw [45] (fun iv wr=>∃k:Nat,k<=n/\iv=.int .i64 (k:Int)/\FR B u w x.s a n c (l++ib x 0++ib x 1++ib x 2++ib x 3++ib x 4++ib x 5++ib x 6++((List.range k).map (ms x.zs)).flatten) w wr) (fun iv _=>n-(intOf iv).toNat)
    case atStart=>exact⟨0,aA _,rfl,by simpa using T.out⟩
    case round=>
     obtain⟨k,hk,rfl,c2⟩:=hrel;have K:=O c2;clear c2 d2
     by_cases b1:k<n
     .obtain⟨b,off,rfl,e5,z0,z1,z2⟩:=(Hz.below K.be (aa _)).at3 b1
      have f2:=wH a4 (k:=k) (by omega);have c0:ms x.zs k=iF [lG,iz (x.zs.getD (k*3) 0) 7,iz (x.zs.getD (k*3+1) 0) 0,iz (x.zs.getD (k*3+2) 0) 0]:=rfl;have b9:=rT (ms x.zs) (k:=k) (n:=n) b1;have b7:=O c0;have c7:=O b9;clear c0 b9;generalize x.zs.getD (k*3) 0=q0 at*;generalize x.zs.getD (k*3+1) 0=q1 at*;generalize x.zs.getD (k*3+2) 0=q2 at*
      go_wp2_with fail
      have P:=TL wr (.cells #[q0,q1,q2] 67);have t:Below wr wr (wr.alloc (.cells #[q0,q1,q2] 67)):=(TH _ _).alloc (aa _) _;have e0:=gA P 0;have e1:=gA P 1;have e2:=gA P 2;have b2:=TK P;have a1:=O t;clear P t z0 z1 z2
      go_upto_region 12 with fail
      have c1:GW wr:=Hg.of K.be (af q.glo f);have a3:=O c1;clear c1;refine gS 11 [(0,true),(1,true),(2,true),(4,true),(5,true),(7,true),(8,true),(3,false),(6,false),(9,false),(10,false)] (by kernel_rfl) (by kernel_rfl) ?_
      iterate 7
       refine gU (v:=?_) rfl (fun _ _ _ h=>h) (by rfl) ?_ ?_;rotate_left
       .intro y S
        have k1:=(S.cell (p:=J (wr.heap.size)) b2).trans e0;have k2:=(S.cell (p:=⟨wr.heap.size,1,none⟩) b2).trans e1;have k3:=(S.cell (p:=⟨wr.heap.size,2,none⟩) b2).trans e2;go_simp
        with_reducible rfl
       try simp only[V]
      clear e0 e1 e2;refine gP rfl rfl (fun Q g=>?_);go_simp;refine(js q0 7 _ (by omega) (by omega) (by omega) (a3.below a1.drew)).mono ?_;rintro W wa ⟨rfl,a8⟩;refine g _ _ a8 ?_;clear g Q;have a6:=a1.drew.trans (a8.mono a1.drew.size)
      try simp only[V]
      refine gP rfl rfl (fun Q g=>?_);go_simp;refine(js q1 0 wa (by omega) (by omega) (by omega) (a3.below a6)).mono ?_;rintro W wb ⟨rfl,a9⟩;refine g _ _ a9 ?_;clear g Q;have M:=I a6 a9
      try simp only[V]
      refine gP rfl rfl (fun Q g=>?_);go_simp;refine(js q2 0 wb (by omega) (by omega) (by omega) (a3.below M)).mono ?_;rintro W wc ⟨rfl,b0⟩;refine g _ _ b0 ?_;clear g Q;have a7:=I M b0
      try simp only[V]
      refine gP rfl rfl (fun Q g=>?_);go_simp;refine g _ _ ((TH _ _).alloc (aa _) _) ?_;clear g Q
      try simp only[V]
      refine iu rfl ?_;have b8:Below wr wr (wc.alloc (.cells (ji [lG,iz q0 7,iz q1 0,iz q2 0]).toArray 9)):=a7.alloc a7.size _
      have b5:(l++ib x 0++ib x 1++ib x 2++ib x 3++ib x 4++ib x 5++ib x 6++((List.range k).map (ms x.zs)).flatten).length+(iF [lG,iz q0 7,iz q1 0,iz q2 0]).length<=1000000:=by
       have h8:(ib x 7).length=(((List.range n).map (ms x.zs)).flatten).length:=by show(((List.range (x.zs.length/3)).map (ms x.zs)).flatten).length=_;rw[c3]
       have h9:=c7.out;have e4:=C.out;rw[b7]at h9;simp only[al];omega
      have a2:=O b8;clear b8 a6 M a7 a8 a9 b0
      go_wp2_with fail
      refine(kL [lG,iz q0 7,iz q1 0,iz q2 0] wc 4 B u (l++ib x 0++ib x 1++ib x 2++ib x 3++ib x 4++ib x 5++ib x 6++((List.range k).map (ms x.zs)).flatten) _ (TL wc _) (by simp) (by simp) b5 (iq K.b a2) (af L (af K.be.size a2.size))).mono ?_;rintro W w9 h2;obtain rfl:=jz h2;have d:=K.next a2 h2 D L;rw[<- b7,aC,<- qk]at d;have o:=O d;clear d h2
      go_wp2_with fail
      go_roundw
      case rel=>exact⟨k+1,by omega,by go_num,o⟩
      case measure=>simp[intOf];omega
     .obtain rfl:k=n:=by omega
      go_wp2_with fail
      go_end0;have hs:=K.out
      have e7:ib x 7=((List.range k).map (ms x.zs)).flatten:=by show((List.range (x.zs.length/3)).map (ms x.zs)).flatten=_;rw[c3]
      refine⟨rfl,?_,hs.be,hs.kt⟩;have hb:=hs.b;rw[uh,e7]
      try simp only[<- aC]
      try simp only[<- aC]at hb
      exact hb
structure Tc (x:gR):Prop where
 dist:0<=x.dist/\x.dist<=1000000000
 pupil:0<=x.pupil/\x.pupil<=1000000000
 stop:0<=x.stop/\x.stop<=16
 prim:0<=x.prim/\x.prim<=16
 fs:∀i,i<x.fs.length/2->(-1000000000<=x.fs.getD (i*2) 0/\x.fs.getD (i*2) 0<=1000000000)/\(-1000000000<=x.fs.getD (i*2+1) 0/\x.fs.getD (i*2+1) 0<=1000000000)
 ws:∀i,i<x.ws.length/2->(0<=x.ws.getD (i*2) 0/\x.ws.getD (i*2) 0<=2500000)/\(1<=x.ws.getD (i*2+1) 0/\x.ws.getD (i*2+1) 0<=100)
 l:∀y∈x.l,tr y=true
 cf:∀c∈x.cf,∀i,i<c.zs.length/3->(0<=c.zs.getD (i*3) 0/\c.zs.getD (i*3) 0<=16)/\(1<=c.zs.getD (i*3+1) 0/\c.zs.getD (i*3+1) 0<=17)/\(-1000000000<=c.zs.getD (i*3+2) 0/\c.zs.getD (i*3+2) 0<=1000000000)
def rV{n lo hi}(h:bt n lo hi=true):lo<=n/\n<=hi:=by
 unfold bt at h;simp at h;exact h
def P6{s:gW}{p v}(h1:1<=p)(h2:p<=17):(s.put p v).get p=v:=by
 obtain rfl|rfl|rfl|rfl|rfl|rfl|rfl|rfl|rfl|rfl|rfl|rfl|rfl|rfl|rfl|rfl|rfl:=oL h1 h2<;>rfl
def Of{l i p v}(h:nT l i p v=true):(0<=i/\i<=(l.length:Int)-1)/\(1<=p/\p<=17)/\(-1000000000<=v/\v<=1000000000):=by
 unfold nT at h;rw[am]at h;obtain⟨h1,h2⟩:=h
 cases hx:l[i.toNat]? with
 |none=>rw[hx]at h2;cases h2
 |some x=>
  rw[hx]at h2;simp only[aD]at h2
  have a:nj x.s x.zs (x.zs.length/3) p=0:=by
   unfold mw at h2;split at h2
   .assumption
   .exact absurd h2 (by assumption)
  have d:tt x.s p=true:=by
   unfold nj at a;split at a
   .split at a
    .assumption
    .cases a
   .cases a
  have b:=oM d
  have e:oA (x.s.put p v) x.zs (x.zs.length/3)=true:=by
   unfold mw at h2;rw[aq a]at h2;split at h2
   .assumption
   .cases h2
  have c:=(uG e).1 p;rw[P6 b.1 b.2]at c;unfold qx at h1;simp only[am]at h1;exact⟨rV h1.1.1,b,c⟩
def JR{l zs}:∀{k:Nat}{l':List gM},tu l zs k=some l'->l'.length=l.length
 |0,l',h=>by unfold tu at h;cases h;rfl
 |k+1,l',h=>by
  unfold tu at h
  cases hc:tu l zs k with
  |none=>rw[hc]at h;cases h
  |some a=>
   rw[hc]at h;simp only[aO]at h;split at h
   .cases h
    rw[xP,JR hc]
   .cases h
def JS{l zs}:∀{k:Nat}{l':List gM},tu l zs k=some l'-> ∀i,i<k->(0<=zs.getD (i*3) 0/\zs.getD (i*3) 0<=(l.length:Int)-1)/\(1<=zs.getD (i*3+1) 0/\zs.getD (i*3+1) 0<=17)/\(-1000000000<=zs.getD (i*3+2) 0/\zs.getD (i*3+2) 0<=1000000000)
 |0,l',h,i,hi=>by omega
 |k+1,l',h,i,hi=>by
  unfold tu at h
  cases hc:tu l zs k with
  |none=>rw[hc]at h;cases h
  |some a=>
   rw[hc]at h;simp only[aO]at h;split at h
   .rename_i hq
    by_cases e:i=k
    .subst e
     have:=Of hq.2;rw[JR hc]at this;exact this
    .exact JS hc i (by omega)
   .cases h
def Cy{ws n}(h:(List.range n).all (jM ws)=true):∀i,i<n->299999<ws.getD (i*2) 0
 |0,hi=>by
  have:=an.1 h 0 (aJ.2 hi);unfold jM jR at this;simp at this;have h1:=this.1.1;simpa using h1
 |i+1,hi=>by
  have h1:=Cy h i (by omega);have:=an.1 h (i+1) (aJ.2 hi);unfold jM jR at this;rw[aj (by omega)]at this;simp only[am,aD,cY]at this;omega
def uH{x}(h:iI x=true):Tc x:=by
 have d:∀k,k<6->jO x k=true:=fun k j=>an.1 h k (aJ.2 j)
 have h1:pN x.dist x.pupil=true:=d 1 (by omega);have h2:jx x.dist x.fs (x.fs.length/2)=true:=d 2 (by omega);have h3:kz x.prim x.ws (x.ws.length/2)=true:=d 3 (by omega);have a:iW x.stop x.l=true:=d 4 (by omega);have h5:jo x.l x.cf=true:=d 5 (by omega);unfold pN at h1;rw[am]at h1;have n:=rV h1.1;have o:=rV h1.2;unfold jx at h2;rw[am]at h2;unfold kz at h3;simp only[am]at h3;have p:=rV h3.1.2;have q:=rV h3.2;unfold iW at a;simp only[am]at a;have r:=rV a.1.1.1.1;have g2:=rV a.1.1.1.2;unfold jo at h5;simp only[am]at h5;refine⟨by omega,by omega,by omega,by omega,fun i hi=>?_,fun i hi=>?_,fun y m=>?_,fun c g i hi=>?_⟩
 .have:=an.1 h2.1 i (aJ.2 hi)
  unfold iV tc at this;simp only[am]at this;have a1:=rV this.1.1;have a2:=rV this.1.2
  have s:jj x.dist<=1000000000:=by unfold jj;split<;>omega
  omega
 .have f:=Cy h3.1.1 i hi
  have:=an.1 h3.1.1 i (aJ.2 hi);unfold jM at this;simp only[am,aD]at this;have a1:=rV this.2;omega
 .have e:=a.1.1.2
  unfold uM at e;rw[di,du]at e;have:=e y m;simpa using this
 .have b:=an.1 h5.1.1 c g
  unfold lr at b
  cases hch:tu x.l c.zs (c.zs.length/3)with
  |none=>rw[hch]at b;cases b
  |some l'=>
   have:=JS hch i hi;omega
abbrev mN:=List UInt8
def qP(v:mN):Prop:=v≠[]/\ ∀b∈v,b≠32/\b≠10/\b≠35
def yu(ws:List mN):Prop:=ws≠[]/\ ∀v∈ws,qP v
def uk:∀(v u l:List UInt8),(∀b∈v,b≠32)->iA u (v++l)=iA (u++v) l
 |[],u,l,_=>by simp
 |b::v,u,l,h=>by
  have a:Pc b=false:=ak.2 (h b aG);rw[bF,iA,a,aj (by simp),uk v (u++[b]) l (fun c d=>h c (au _ d))];simp
def yw:∀ws:List mN,(∀v∈ws,qP v)->iA [] (nN ws)=ws
 |[],_=>rfl
 |[x],h=>by
  have a:=h x aG;rw[nN,<- bG x,uk x [] [] (fun b c=>(a.2 b c).1),iA,aj (by simpa using a.1)];simp
 |x::y::l,h=>by
  have a:=h x aG;rw[nN,uk x [] _ (fun b c=>(a.2 b c).1),iA,show Pc 32=true from rfl,aq rfl,aj (by simpa using a.1),yw (y::l) (fun v d=>h v (au _ d))];simp
def vF:∀(A w t:List UInt8),io w (A++10::t)=io w A++io [] t
 |[],w,t=>rfl
 |b::A,w,t=>by
  rw[bF,io,io];cases hb:(b==10)
  .rw[aj (by simp),aj (by simp)];exact vF A _ t
  .rw[aq rfl,aq rfl,vF A [] t];rfl
def AE:∀(A w:List UInt8),(∀b∈A,b≠10)->io w A=[w++A]
 |[],w,_=>by rw[io,bG]
 |b::A,w,h=>by
  have a:(b==10)=false:=ak.2 (h b aG);rw[io,a,aj (by simp),AE A _ (fun c d=>h c (au _ d))];simp
def yx(ss:List (List UInt8)):List (List mN):=(ss.map (iA [])).filter fun ws=>!ti ws
def DU(t:List UInt8):List (List mN):=yx (io [] t)
def DV(a b):yx (a++b)=yx a++yx b:=by unfold yx;rw[aT,dO]
def Oz(A t):DU (A++10::t)=DU A++DU t:=by unfold DU;rw[vF,DV]
def CG:∀(ws:List mN)(b:UInt8),b∈nN ws->b=32\/ ∃v∈ws,b∈v
 |[],b,h=>by cases h
 |[x],b,h=>Or.inr ⟨x,aG,h⟩
 |x::y::l,b,h=>by
  rw[nN]at h
  obtain h|h:=bj.1 h
  .exact Or.inr ⟨x,aG,h⟩
  .obtain h|h:=aS.1 h
   .exact Or.inl h
   .obtain h|⟨v,hv,hb⟩:=CG (y::l) b h
    .exact Or.inl h
    .exact Or.inr ⟨v,au _ hv,hb⟩
def Md{ws}(h:yu ws):ti ws=false:=by
 obtain⟨h1,h2⟩:=h
 match ws,h1 with
 |v::ws,_=>
  have a:=h2 v aG
  match v,a with
  |b::v,a=>
   show(some b==some 35)=false
   have:=(a.2 b aG).2.2;rw[ak];intro e;cases e;exact this rfl
def Me{ws}(h:∀v∈ws,qP v):∀b∈nN ws,b≠10:=fun b a=>by
 obtain rfl|⟨v,hv,a⟩:=CG ws b a
 .decide
 .exact((h v hv).2 b a).2.1
def Mf{ws}(h:yu ws):DU (nN ws)=[ws]:=by
 unfold DU;rw[AE _ _ (Me h.2)];unfold yx;rw[bD,aN,bI,yw ws h.2,dE,Md h];rfl
def wL(L:List (List mN)):List UInt8:=(L.map iF).flatten
def yS(a b):wL (a++b)=wL a++wL b:=by unfold wL;rw[aT,cG]
def sY(ws):wL [ws]=iF ws:=by simp[wL]
def OA(ws L):wL (ws::L)=nN ws++10::wL L:=by simp[wL,iF]
def yT{α:Type}(f:α->List mN)(l:List α):(l.map fun i=>iF (f i)).flatten=wL (l.map f):=by
 unfold wL;rw[dD];rfl
def wM{α:Type}(f:α->List (List mN)):∀l:List α,(l.map fun i=>wL (f i)).flatten=wL (l.map f).flatten
 |[]=>rfl
 |a::l=>by rw[aN,ce,wM f l,aN,ce,yS]
def JT:∀L:List (List mN),(∀ws∈L,yu ws)->DU (wL L)=L
 |[],_=>rfl
 |ws::L,h=>by
  rw[OA,Oz,Mf (h ws aG),JT L (fun v a=>h v (au _ a))];rfl
def mq:jL->List (List mN)->Option jL
 |r,[]=>some r
 |r,w::ws=>(kp r w).bind fun q=>mq q ws
def ke:∀(a b:List (List mN))(r:jL),mq r (a++b)=(mq r a).bind fun q=>mq q b
 |[],b,r=>rfl
 |w::a,b,r=>by
  rw[bF,mq,mq]
  cases kp r w with
  |none=>rfl
  |some q=>exact ke a b q
def oy(r w):mq r [w]=kp r w:=by
 rw[mq];cases kp r w<;>rfl
def vG:∀(ss:List (List UInt8))(i:Nat)(r q:jL),mq r (yx ss)=some q->lR i r ss=.ok q
 |[],i,r,q,h=>by cases h;rfl
 |s::ss,i,r,q,h=>by
  unfold yx at h;rw[aN,dE]at h;rw[lR];cases hs:ti (iA [] s)
  .rw[hs]at h
   rw[fT,aq rfl,mq]at h;rw[aj (by simp)]
   cases hl:kp r (iA [] s)with
   |none=>rw[hl]at h;cases h
   |some a=>rw[hl]at h;exact vG ss (i+1) a q h
  .rw[hs]at h
   rw[gf,aj (by simp)]at h;rw[aq rfl];exact vG ss (i+1) r q h
def Mg{t q}(c:t.length<=20000)(h:mq Ae (DU t)=some q)(a:q.at_=9)(b:iI q.x=true):nr t=⟨q.x,0,0⟩:=by
 unfold nr;rw[aj (by omega),vG _ 0 Ae q h];simp only[a,ne_eq,not_true_eq_false,de];rw[aq b]
def ny{n}(d)(h1: -1000000000<=n)(h2:n<=1000000000):lp (iz n d) d=some n:=by
 have a:=pG d (n.natAbs%10^d);have b:=Ox n d
 have hf:rP n=true:=by unfold rP;simp;omega
 have c:Fj (iz n d) d=0:=by
  unfold Fj;rw[B6];simp only;rw[aq a,b,aq hf]
 have e:Fi (iz n d) d=n:=by
  unfold Fi;rw[B6];simp only;rw[b,aq ⟨a,hf⟩]
 unfold lp;rw[aq c,e]
def mZ(n d):qP (iz n d):=by
 have h:=CF n d;refine⟨h.1,fun b a=>?_⟩;have h2:=Oy (h.2 b a);have h3:=h2.1;unfold K7 at h3;simp at h3;exact⟨h3.1,h2.2⟩
def ul(s:gW)(p:Nat):List (List mN):=if s.get (p:Int)=0 then[]else[[km p,iz (s.get (p:Int)) (oo p)]]
def pK(s:gW)(a n:Nat):List (List mN):=((List.range n).map fun i=>ul s (a+i)).flatten
def AF(zs:List Int)(i:Nat):List mN:=[lG,iz (zs.getD (i*3) 0) 7,iz (zs.getD (i*3+1) 0) 0,iz (zs.getD (i*3+2) 0) 0]
def yy(s:gW):List (List mN):=if s.hole=0 then[]else[[lB,iz s.hole 6]]
def um(s:gW):List (List mN):=if s.order=0 then[]else[[kj,iz s.order 0]]
def uo(s:gW):List (List mN):=if kb s.glass=[]then[]else[[lP,kb s.glass]]
def AG(x:gM):List (List mN):=pK x.s 1 10++yy x.s++pK x.s 11 5++um x.s++pK x.s 16 2++uo x.s++(List.range (x.zs.length/3)).map (AF x.zs)
def sZ(x:gM):List (List mN):=[nq,kP.getD (x.s.kind-1).toNat []]::AG x
def uK(zs:List Int)(i:Nat):List mN:=[lj,iz (zs.getD (i*3) 0) 0,km (zs.getD (i*3+1) 0).toNat,iz (zs.getD (i*3+2) 0) (oo (zs.getD (i*3+1) 0).toNat)]
def yz(c:jd):List (List mN):=[mc,kb c.nm]::(List.range (c.zs.length/3)).map (uK c.zs)
def AH(fs:List Int)(i:Nat):List mN:=[vB,iz (fs.getD (i*2) 0) 6,iz (fs.getD (i*2+1) 0) 6]
def FV(ws:List Int)(i:Nat):List mN:=[Ab,iz (ws.getD (i*2) 0) 3,iz (ws.getD (i*2+1) 0) 0]
def CH(x:gR):List (List mN):=[[xZ,kb x.nm],[sO,if x.dist=0 then lQ else iz x.dist 6],[vA,iz x.pupil 6],[Aa,iz x.stop 0],[qJ,iz x.prim 0]]
def AI(x:gR):List (List mN):=
 CH x++(List.range (x.fs.length/2)).map (AH x.fs)++(List.range (x.ws.length/2)).map (FV x.ws)++(x.l.map sZ).flatten++(x.cf.map yz).flatten++[[Fp]]
def P9(s p):Ld s p=wL (ul s p):=by
 unfold Ld ul;split
 .rfl
 .rw[sY]
def OB(s a n):ub s a n=wL (pK s a n):=by
 unfold ub pK;rw[<- wM]
 congr 2
 funext i
 exact P9 s _
def OC(x):oq x=wL (sZ x):=by
 unfold oq sZ AG;rw[show([nq,kP.getD (x.s.kind-1).toNat []]::(pK x.s 1 10++yy x.s++pK x.s 11 5++um x.s++pK x.s 16 2++uo x.s++(List.range (x.zs.length/3)).map (AF x.zs)))=[[nq,kP.getD (x.s.kind-1).toNat []]]++(pK x.s 1 10++yy x.s++pK x.s 11 5++um x.s++pK x.s 16 2++uo x.s++(List.range (x.zs.length/3)).map (AF x.zs))from rfl];simp only[yS,sY,OB]
 have h1:(if x.s.hole=0 then[]else iF [lB,iz x.s.hole 6])=wL (yy x.s):=by
  unfold yy;split
  .rfl
  .rw[sY]
 have h2:(if x.s.order=0 then[]else iF [kj,iz x.s.order 0])=wL (um x.s):=by
  unfold um;split
  .rfl
  .rw[sY]
 have h3:(if kb x.s.glass=[]then[]else iF [lP,kb x.s.glass])=wL (uo x.s):=by
  unfold uo;split
  .rfl
  .rw[sY]
 have a:((List.range (x.zs.length/3)).map (ms x.zs)).flatten=wL ((List.range (x.zs.length/3)).map (AF x.zs)):=yT (AF x.zs) _;rw[h1,h2,h3,a];simp only[aC]
def OD(c):ot c=wL (yz c):=by
 unfold ot yz;rw[show([mc,kb c.nm]::(List.range (c.zs.length/3)).map (uK c.zs))=[[mc,kb c.nm]]++(List.range (c.zs.length/3)).map (uK c.zs)from rfl,yS,sY]
 congr 1
 exact yT (uK c.zs) _
def OE(x):Fq x=wL (CH x):=by
 unfold Fq CH wL;simp only[aN,bI,ce,List.flatten_nil,bG,aC]
def OF(x):nO x=wL (AI x):=by
 unfold nO AI;have h1:((List.range (x.fs.length/2)).map (nE x.fs)).flatten=wL ((List.range (x.fs.length/2)).map (AH x.fs)):=yT (AH x.fs) _;have h2:((List.range (x.ws.length/2)).map (qK x.ws)).flatten=wL ((List.range (x.ws.length/2)).map (FV x.ws)):=yT (FV x.ws) _
 have h3:(x.l.map oq).flatten=wL (x.l.map sZ).flatten:=by
  rw[<- wM];congr 2;funext y;exact OC y
 have a:(x.cf.map ot).flatten=wL (x.cf.map yz).flatten:=by
  rw[<- wM];congr 2;funext y;exact OD y
 rw[h1,h2,h3,a,OE];simp only[yS,sY]
def DW{s}(h:kI s=true):qP (kb s):=by
 unfold kI at h;simp only[am,aD]at h;obtain⟨⟨h1,h2⟩,_⟩:=h;refine⟨fun e=>?_,fun b a=>?_⟩
 .have:s.data.toList.length=0:=by rw[show s.data.toList=[]from e];rfl
  have h3:s.size=s.data.toList.length:=by rw[fe];rfl
  omega
 .have:=an.1 h1 b a
  refine⟨?_,?_,?_⟩ <;>(rintro rfl;revert this;decide)
def FW{p}(h1:1<=p)(h2:p<=17):qP (km p):=by
 have:∀p,p<18->1<=p->qP (km p):=by unfold qP;decide
 exact this p (by omega) h1
def kf{f ws}(h:qP f)(h2:∀v∈ws,qP v):yu (f::ws):=⟨by simp,fun v a=>by
 obtain rfl|a:=aS.1 a
 .exact h
 .exact h2 v a⟩
def nb(l)(h:(!l.isEmpty&&l.all fun b=>b !=32&&b !=10&&b !=35)=true):qP l:=by
 simp only[am,di,an,fk,ne_eq]at h;exact⟨fun e=>by subst e;simp at h,fun b a=>⟨(h.2 b a).1.1,(h.2 b a).1.2,(h.2 b a).2⟩⟩
def pR{v}(h:qP v):∀u∈ [v],qP u:=fun u a=>by rw[aK.1 a];exact h
def IV{v w}(h:qP v)(h2:qP w):∀u∈ [v,w],qP u:=fun u a=>by
 obtain rfl|a:=aS.1 a
 .exact h
 .exact pR h2 u a
def FX{v w z}(h:qP v)(h2:qP w)(h3:qP z):∀u∈ [v,w,z],qP u:=fun u a=>by
 obtain rfl|a:=aS.1 a
 .exact h
 .exact IV h2 h3 u a
def FY(s){p}(h1:1<=p)(h2:p<=17):∀w∈ul s p,yu w:=fun w hw=>by
 unfold ul at hw;split at hw
 .cases hw
 .rw[aK.1 hw];exact kf (FW h1 h2) (pR (mZ _ _))
def vH(s){a n}(h1:1<=a)(h2:a+n<=18):∀w∈pK s a n,yu w:=fun w hw=>by
 unfold pK at hw;obtain⟨l,b,hw⟩:=eP.1 hw;obtain⟨i,hi,rfl⟩:=cP.1 b;have:=aJ.1 hi;exact FY s (by omega) (by omega) w hw
def AJ{s zs n}(h:oA s zs n=true)(b:kb s.glass≠[]):kI s.glass=true:=by
 unfold oA at h;rw[am]at h;have a:pC s zs n 5=true:=an.1 h.1 5 (by decide);have a:rI s=true:=a;unfold rI at a;rw[dN]at a
 obtain a|a:=a
 .rw[List.isEmpty_iff]at a
  have:s.glass.data.toList=[]:=by rw[<- ByteArray.toList_eq];exact a
  exact absurd this b
 .exact a
def FZ{s zs n}(h:oA s zs n=true):1<=s.kind/\s.kind<=4:=by
 unfold oA at h;rw[am]at h;have h0:pC s zs n 0=true:=an.1 h.1 0 (by decide);have h0:rK s zs=true:=h0;unfold rK at h0;rw[am]at h0;exact Ej h0.1
def OG{k}(h:k<4):qP (kP.getD k []):=by
 have:∀k,k<4->qP (kP.getD k []):=by unfold qP;decide
 exact this k h
def F8{x}(h:tr x=true):∀w∈sZ x,yu w:=fun w hw=>by
 have a:=FZ h;unfold sZ AG at hw;simp only[aS,bj]at hw
 rcases hw with rfl|(((((hw|hw)|hw)|hw)|hw)|hw)|hw
 .exact kf (nb _ (by decide)) (pR (OG (by omega)))
 .exact vH x.s (by omega) (by omega) w hw
 .unfold yy at hw
  split at hw
  .cases hw
  .rw[aK.1 hw];exact kf (nb _ (by decide)) (pR (mZ _ _))
 .exact vH x.s (by omega) (by omega) w hw
 .unfold um at hw
  split at hw
  .cases hw
  .rw[aK.1 hw];exact kf (nb _ (by decide)) (pR (mZ _ _))
 .exact vH x.s (by omega) (by omega) w hw
 .unfold uo at hw
  split at hw
  .cases hw
  .rename_i hg
   rw[aK.1 hw];exact kf (nb _ (by decide)) (pR (DW (AJ h hg)))
 .obtain⟨i,_,rfl⟩:=cP.1 hw
  exact kf (nb _ (by decide)) (FX (mZ _ _) (mZ _ _) (mZ _ _))
def IW{ks}(h:vV ks=true):∀k∈ks,kI k=true:=fun k a=>by
 obtain⟨i,hi,rfl⟩:=List.mem_iff_getElem.1 a;have:=an.1 h i (aJ.2 hi);unfold od at this;rw[ae hi]at this;simp only[am]at this;exact this.2
def AK{x}(h:iI x=true):∀c∈x.cf,kI c.nm=true:=fun c a=>by
 have h5:jo x.l x.cf=true:=an.1 h 5 (by decide);unfold jo at h5;rw[am]at h5;exact IW h5.2 c.nm (cP.2 ⟨c,a,rfl⟩)
def AL{x}(h:iI x=true):kI x.nm=true:=an.1 h 0 (by decide)
def IX{x}(h:iI x=true):∀w∈AI x,yu w:=fun w hw=>by
 have d:=uH h;unfold AI CH at hw;simp only[bj,aS,bi,cR]at hw
 rcases hw with((((hw|hw)|hw)|hw)|hw)|rfl
 .obtain rfl|rfl|rfl|rfl|rfl:=hw
  .exact kf (nb _ (by decide)) (pR (DW (AL h)))
  .refine kf (nb _ (by decide)) (pR ?_)
   split
   .exact nb _ (by decide)
   .exact mZ _ _
  .exact kf (nb _ (by decide)) (pR (mZ _ _))
  .exact kf (nb _ (by decide)) (pR (mZ _ _))
  .exact kf (nb _ (by decide)) (pR (mZ _ _))
 .obtain⟨i,_,rfl⟩:=cP.1 hw
  exact kf (nb _ (by decide)) (IV (mZ _ _) (mZ _ _))
 .obtain⟨i,_,rfl⟩:=cP.1 hw
  exact kf (nb _ (by decide)) (IV (mZ _ _) (mZ _ _))
 .obtain⟨l,a,hw⟩:=eP.1 hw
  obtain⟨y,f,rfl⟩:=cP.1 a;exact F8 (d.l y f) w hw
 .obtain⟨l,a,hw⟩:=eP.1 hw
  obtain⟨c,b,rfl⟩:=cP.1 a;unfold yz at hw
  obtain rfl|hw:=aS.1 hw
  .exact kf (nb _ (by decide)) (pR (DW (AK h c b)))
  .obtain⟨i,hi,rfl⟩:=cP.1 hw
   have:=d.cf c b i (aJ.1 hi);exact kf (nb _ (by decide)) (FX (mZ _ _) (FW (by omega) (by omega)) (mZ _ _))
 .exact kf (nb _ (by decide)) (fun v e=>by cases e)
def Mh{x}(h:iI x=true):DU (nO x)=AI x:=by
 rw[OF];exact JT _ (IX h)
def nt{r f ws}{k:Nat}{y}(a:r.at_≠9)(hf:kV.findIdx? (· ==f)=some k)(b:(k:Int)=r.at_+1\/(5<=k/\4<=r.at_/\r.at_<=(k:Int)))(c:jk r.x k ws=some y):kp r (f::ws)=some ⟨y,(k:Int),[]⟩:=by
 unfold kp;rw[aj a];simp only[hf];rw[aq b,c];rfl
def AM{r f ws}(a:r.at_=7)(hf:kV.findIdx? (· ==f)=none):kp r (f::ws)=lX r f ws:=by
 unfold kp lX;rw[aj (by rw[a];decide)];simp only[hf];rw[aq a]
def IY{r ws}(a:r.at_=8):kp r (lj::ws)=(ou r.x.cf fun c=>sP c (lj::ws)).map fun cf=>⟨{r.x with cf:=cf},8,r.seen⟩:=by
 have hf:kV.findIdx? (· ==lj)=none:=by decide+kernel
 unfold kp;rw[aj (by rw[a];decide)];simp only[hf];rw[aj (by rw[a];decide),aq ⟨a,trivial⟩]
def mH{p}(h1:1<=p)(h2:p<=17):kV.findIdx? (· ==km p)=none/\kO.findIdx? (· ==km p)=some (p-1)/\km p≠lG/\km p≠lP/\km p≠lB/\km p≠kj:=by
 have:∀p,p<18->1<=p->kV.findIdx? (· ==km p)=none/\kO.findIdx? (· ==km p)=some (p-1)/\km p≠lG/\km p≠lP/\km p≠lB/\km p≠kj:=by decide+kernel
 exact this p (by omega) h1
def Ga{p q}(h1:1<=p)(h2:p<=17)(h3:1<=q)(c:q<=17)(h:km p=km q):p=q:=by
 have a:=(mH h1 h2).2.1;have b:=(mH h3 c).2.1;rw[h,b]at a;have:=aE a;omega
def up{p}(h1:1<=p)(h2:p<=17):rD (km p)=some p:=by
 rw[ug (mH h1 h2).2.1,Nat.sub_add_cancel h1]
def Gp(y:gR)(l0:List gM)(t:gW)(zs:List Int)(seen:List mN):jL:=⟨{y with l:=l0++[⟨t,zs⟩]},7,seen⟩
def DX(y l0 t zs seen){f d n}(b:kV.findIdx? (· ==f)=none)(h1:f≠lG)(h2:f≠lP)(a:Dv f=some d)(c:f ∉ seen)(e: -1000000000<=n)(g:n<=1000000000):
 kp (Gp y l0 t zs seen) [f,iz n d]=some (Gp y l0 (Ac t f n) zs (seen++[f])):=by
 rw[AM rfl b,nS (l0:=l0) (y:=⟨t,zs⟩) rfl h1 c,aj h2,a];simp only;rw[ny d e g];rfl
def OH{t:gW}{p}(h1:1<=p)(h2:p<=17)(h:t.get p=0):t.put p 0=t:=by
 obtain⟨k,c1,c2,c3,c4,c5,n,o,q,r,a,b,c,d,e,f,g,i,j,l,m⟩:=t
 obtain rfl|rfl|rfl|rfl|rfl|rfl|rfl|rfl|rfl|rfl|rfl|rfl|rfl|rfl|rfl|rfl|rfl:=oL h1 h2<;>(simp[gW.get]at h;subst h;rfl)
def IZ{t:gW}{p q v}(h1:1<=p)(h2:p<=17)(h:p≠q):(t.put p v).get q=t.get q:=by
 obtain rfl|rfl|rfl|rfl|rfl|rfl|rfl|rfl|rfl|rfl|rfl|rfl|rfl|rfl|rfl|rfl|rfl:=oL h1 h2<;>(unfold gW.get gW.put;simp[h.symm])
def Mi(y l0 t zs seen s){p:Nat}(h1:1<=p)(h2:p<=17)(r: -1000000000<=s.get (p:Int)/\s.get (p:Int)<=1000000000)(g:t.get (p:Int)=0)(e:km p ∉ seen):
 ∃a,(∀f∈a,f∈seen\/f=km p)/\mq (Gp y l0 t zs seen) (ul s p)=some (Gp y l0 (t.put (p:Int) (s.get (p:Int))) zs a):=by
 obtain⟨f1,i,f3,b,-,-⟩:=mH h1 h2;unfold ul;split
 .rename_i h0
  refine⟨seen,fun f h=>Or.inl h,?_⟩;rw[h0,OH (by omega) (by omega) g];rfl
 .refine⟨seen++[km p],fun f h=>by simpa using h,?_⟩
  have c:Ac t (km p) (s.get (p:Int))=t.put (p:Int) (s.get (p:Int)):=by unfold Ac;rw[up h1 h2]
  rw[oy,DX y l0 t zs seen f1 f3 b (d:=oo p) (by unfold Dv;rw[up h1 h2]) e r.1 r.2,c]
def jS(t s:gW)(a:Nat):Nat->gW
 |0=>t
 |n+1=>(jS t s a n).put ((a+n:Nat):Int) (s.get ((a+n:Nat):Int))
def uq{t s a}(b:1<=a):∀{n:Nat}{q:Nat},a+n<=18->a+n<=q->(jS t s a n).get (q:Int)=t.get (q:Int)
 |0,q,_,_=>rfl
 |n+1,q,h1,h2=>by
  rw[jS,IZ (by omega) (by omega) (by omega)];exact uq b (by omega) (by omega)
def I4(s a n):pK s a (n+1)=pK s a n++ul s (a+n):=by
 unfold pK;rw[bV,aT,cG];simp
def wN(y l0 t zs seen s)(r:∀p:Int,-1000000000<=s.get p/\s.get p<=1000000000){a}(c:1<=a)(g:∀q:Nat,a<=q->q<=17->t.get (q:Int)=0)(e:∀q:Nat,a<=q->q<=17->km q ∉ seen):
 ∀n,a+n<=18-> ∃b,(∀f∈b,f∈seen\/ ∃q,a<=q/\q<a+n/\f=km q)/\mq (Gp y l0 t zs seen) (pK s a n)=some (Gp y l0 (jS t s a n) zs b)
 |0,_=>⟨seen,fun f h=>Or.inl h,rfl⟩
 |n+1,h=>by
  obtain⟨sn,h1,h2⟩:=wN y l0 t zs seen s r c g e n (by omega)
  have d:km (a+n) ∉ sn:=fun k=>by
   obtain h3|⟨q,q1,q2,q3⟩:=h1 _ k
   .exact e (a+n) (by omega) (by omega) h3
   .have:=Ga (by omega) (by omega) (by omega) (by omega) q3
    omega
  obtain⟨i,h3,j⟩:=Mi y l0 (jS t s a n) zs sn s (p:=a+n) (by omega) (by omega) (r _) (by rw[uq c (by omega) (by omega)];exact g _ (by omega) (by omega)) d;refine⟨i,fun f hf=>?_,by rw[I4,ke,h2];exact j⟩
  obtain h5|h5:=h3 f hf
  .obtain h6|⟨q,q1,q2,q3⟩:=h1 f h5
   .exact Or.inl h6
   .exact Or.inr ⟨q,q1,by omega,q3⟩
  .exact Or.inr ⟨a+n,by omega,by omega,h5⟩
def OI(y l0 t zs seen s)(r:0<=s.hole/\s.hole<=1000000000)(c:t.hole=0)(b:lB ∉ seen):
 ∃a,(∀f∈a,f∈seen\/f=lB)/\mq (Gp y l0 t zs seen) (yy s)=some (Gp y l0 {t with hole:=s.hole} zs a):=by
 unfold yy;split
 .rename_i h0
  refine⟨seen,fun f h=>Or.inl h,?_⟩;rw[h0,<- c];rfl
 .refine⟨seen++[lB],fun f h=>by simpa using h,?_⟩
  rw[oy,DX y l0 t zs seen (by decide+kernel) (by decide+kernel) (by decide+kernel) (d:=6) (by decide+kernel) b (by omega) r.2];rfl
def Mj(y l0 t zs seen s)(r: -3<=s.order/\s.order<=3)(c:t.order=0)(b:kj ∉ seen):
 ∃a,(∀f∈a,f∈seen\/f=kj)/\mq (Gp y l0 t zs seen) (um s)=some (Gp y l0 {t with order:=s.order} zs a):=by
 unfold um;split
 .rename_i h0
  refine⟨seen,fun f h=>Or.inl h,?_⟩;rw[h0,<- c];rfl
 .refine⟨seen++[kj],fun f h=>by simpa using h,?_⟩
  rw[oy,DX y l0 t zs seen (by decide+kernel) (by decide+kernel) (by decide+kernel) (d:=0) (by decide+kernel) b (by omega) (by omega)];rfl
def Mk(y l0 t zs seen s)(b:t.glass={data:=#[]})(hs:lP ∉ seen):
 ∃a,mq (Gp y l0 t zs seen) (uo s)=some (Gp y l0 {t with glass:=s.glass} zs a):=by
 unfold uo;split
 .rename_i h0
  refine⟨seen,?_⟩;rw[Cx h0,<- b];rfl
 .refine⟨seen++[lP],?_⟩
  rw[oy,AM rfl (by decide+kernel),nS (l0:=l0) (y:=⟨t,zs⟩) rfl (by decide+kernel) hs,aq rfl,qO];rfl
def AN{zs:List Int}{n}(h:(n+1)*3<=zs.length):zs.take ((n+1)*3)=zs.take (n*3)++[zs.getD (n*3) 0,zs.getD (n*3+1) 0,zs.getD (n*3+2) 0]:=by
 have h1:∀k,k<zs.length->zs.take (k+1)=zs.take k++[zs.getD k 0]:=fun k a=>by
  rw[List.take_succ,ae a,ah,ae a];rfl
 rw[show(n+1)*3=n*3+1+1+1 by omega,h1 (n*3+1+1) (by omega),h1 (n*3+1) (by omega),h1 (n*3) (by omega)];simp only[aC,bF,bD]
def Gc{zs:List Int}{n}(h:(n+1)*2<=zs.length):zs.take ((n+1)*2)=zs.take (n*2)++[zs.getD (n*2) 0,zs.getD (n*2+1) 0]:=by
 have h1:∀k,k<zs.length->zs.take (k+1)=zs.take k++[zs.getD k 0]:=fun k a=>by
  rw[List.take_succ,ae a,ah,ae a];rfl
 rw[show(n+1)*2=n*2+1+1 by omega,h1 (n*2+1) (by omega),h1 (n*2) (by omega)];simp only[aC,bF,bD]
def I5{a b c d e f}(h1: -1000000000<=a/\a<=1000000000)(h2: -1000000000<=b/\b<=1000000000)(h3: -1000000000<=c/\c<=1000000000):kF [iz a d,iz b e,iz c f] [d,e,f]=some [a,b,c]:=by
 simp[kF,ny d h1.1 h1.2,ny e h2.1 h2.2,ny f h3.1 h3.2]
def Gd{a b d e}(h1: -1000000000<=a/\a<=1000000000)(h2: -1000000000<=b/\b<=1000000000):kF [iz a d,iz b e] [d,e]=some [a,b]:=by
 simp[kF,ny d h1.1 h1.2,ny e h2.1 h2.2]
def CI(y l0 t x seen)(a:tr x=true):∀n,n<=x.zs.length/3->mq (Gp y l0 t [] seen) ((List.range n).map (AF x.zs))=some (Gp y l0 t (x.zs.take (n*3)) seen)
 |0,_=>by simp[mq]
 |n+1,h=>by
  have b:=wH a (k:=n) (by omega);rw[bV,aT,ke,CI y l0 t x seen a n (by omega),aO,aN,bI,oy];unfold AF;rw[AM rfl (by decide+kernel),sW (l0:=l0) (y:=⟨t,x.zs.take (n*3)⟩) rfl,I5 (by omega) (by omega) (by omega),AN (by omega)];rfl
def OJ(s)(k:Nat)(a:(k:Int)=s.kind):{jS {jS {jS (lJ k).s s 1 10 with hole:=s.hole} s 11 5 with order:=s.order} s 16 2 with glass:=s.glass}=s:=by
 obtain⟨k0,c1,c2,c3,c4,c5,n,o,p,q,b,c,d,e,f,g,h,i,j,l,m⟩:=s;subst a;rfl
def OK(t:gW)(h q):({t with hole:=h}:gW).get q=t.get q:=rfl
def Ml(t:gW)(h q):({t with order:=h}:gW).get q=t.get q:=rfl
def AO(t p v)(Q:gW->Prop)(h1:Q {t with curv:=v})(h2:Q {t with conic:=v})(h3:Q {t with curvX:=v})(h4:Q {t with conicX:=v})(h5:Q {t with a0:=v})(h6:Q {t with a1:=v})(h7:Q {t with a2:=v})(h8:Q {t with a3:=v})(h9:Q {t with thick:=v})(h10:Q {t with semi:=v})(h11:Q {t with dx:=v})(h12:Q {t with dy:=v})(h13:Q {t with ax:=v})(h14:Q {t with ay:=v})(h15:Q {t with az:=v})(h16:Q {t with p0:=v})(h17:Q {t with p1:=v})(h0:Q t):Q (t.put p v):=by
 by_cases a:1<=p/\p<=17
 .obtain rfl|rfl|rfl|rfl|rfl|rfl|rfl|rfl|rfl|rfl|rfl|rfl|rfl|rfl|rfl|rfl|rfl:=oL a.1 a.2
  .exact h1
  .exact h2
  .exact h3
  .exact h4
  .exact h5
  .exact h6
  .exact h7
  .exact h8
  .exact h9
  .exact h10
  .exact h11
  .exact h12
  .exact h13
  .exact h14
  .exact h15
  .exact h16
  .exact h17
 .have e:t.put p v=t:=by
   unfold gW.put;rw[aj (by omega),aj (by omega),aj (by omega),aj (by omega),aj (by omega),aj (by omega),aj (by omega),aj (by omega),aj (by omega),aj (by omega),aj (by omega),aj (by omega),aj (by omega),aj (by omega),aj (by omega),aj (by omega),aj (by omega)]
  rw[e];exact h0
def OL(t:gW)(p v):(t.put p v).hole=t.hole:=AO t p v (fun u=>u.hole=t.hole) rfl rfl rfl rfl rfl rfl rfl rfl rfl rfl rfl rfl rfl rfl rfl rfl rfl rfl
def Mm(t:gW)(p v):(t.put p v).order=t.order:=AO t p v (fun u=>u.order=t.order) rfl rfl rfl rfl rfl rfl rfl rfl rfl rfl rfl rfl rfl rfl rfl rfl rfl rfl
def Mn(t:gW)(p v):(t.put p v).glass=t.glass:=AO t p v (fun u=>u.glass=t.glass) rfl rfl rfl rfl rfl rfl rfl rfl rfl rfl rfl rfl rfl rfl rfl rfl rfl rfl
def CJ(t s a):∀n,(jS t s a n).hole=t.hole
 |0=>rfl
 |n+1=>by rw[jS,OL,CJ t s a n]
def vI(t s a):∀n,(jS t s a n).order=t.order
 |0=>rfl
 |n+1=>by rw[jS,Mm,vI t s a n]
def ta(t s a):∀n,(jS t s a n).glass=t.glass
 |0=>rfl
 |n+1=>by rw[jS,Mn,ta t s a n]
def Qa(k){q:Nat}(h1:1<=q)(h2:q<=17):(lJ k).s.get (q:Int)=0:=by
 have:∀q:Nat,q<18->1<=q->(lJ 0).s.get (q:Int)=0:=by decide+kernel
 exact this q (by omega) h1
def Mo{k}(h:k<4):kP.findIdx? (· ==kP.getD k [])=some k:=by
 have:∀k,k<4->kP.findIdx? (· ==kP.getD k [])=some k:=by decide+kernel
 exact this k h
def CK{t s a n}(c:1<=a)(b:a+n<=18)(d:∀q:Nat,a<=q->q<=17->t.get (q:Int)=0):∀q:Nat,a+n<=q->q<=17->(jS t s a n).get (q:Int)=0:=fun q h1 h2=>by
 rw[uq c b h1];exact d q (by omega) h2
def oz{sn:List mN}{a n}{base:List mN}(i:1<=a)(j:a+n<=18)(h:∀f∈sn,f∈base\/ ∃q,a<=q/\q<a+n/\f=km q){f}(d:f ∉ base)(hf:(f=lB\/f=kj\/f=lP\/ ∃q,(q<a\/a+n<=q)/\1<=q/\q<=17/\f=km q)):f ∉ sn:=fun e=>by
 obtain h1|⟨q,q1,q2,q3⟩:=h f e
 .exact d h1
 .obtain⟨-,-,g,g2,b,c⟩:=mH (p:=q) (by omega) (by omega)
  obtain rfl|rfl|rfl|⟨p,p1,p2,p3,p4⟩:=hf
  .exact b q3.symm
  .exact c q3.symm
  .exact g2 q3.symm
  .have:=Ga p2 p3 (by omega) (by omega) (p4.symm.trans q3)
   omega
def rY{sn a:List mN}{g f}(h:∀f∈a,f∈sn\/f=g)(h1:f ∉ sn)(h2:f≠g):f ∉ a:=fun b=>(h f b).elim h1 h2
def I6(x)(i:tr x=true)(A:x.zs.length=x.zs.length/3*3)(y l0)(k:Nat)(z:(k:Int)=x.s.kind):
 ∃seen,mq (Gp y l0 (lJ k).s [] []) (AG x)=some (Gp y l0 x.s x.zs seen):=by
 obtain⟨f,C,D⟩:=uG i;have c:=OJ x.s k z
 have z0:∀q:Nat,1<=q->q<=17->(lJ k).s.get (q:Int)=0:=fun q h1 h2=>Qa k h1 h2
 have a0:(lJ k).s.hole=0/\(lJ k).s.order=0/\(lJ k).s.glass={data:=#[]}:=⟨rfl,rfl,rfl⟩;generalize(lJ k).s=T0 at*;obtain⟨s1,b,r⟩:=wN y l0 T0 [] [] x.s f (a:=1) (by omega) (fun q h1 h2=>z0 q h1 h2) (fun q _ _ h=>by cases h) 10 (by omega);have K:=CK (s:=x.s) (a:=1) (n:=10) (by omega) (by omega) z0
 have a1:(jS T0 x.s 1 10).hole=0/\(jS T0 x.s 1 10).order=0/\(jS T0 x.s 1 10).glass={data:=#[]}:=by rw[CJ,vI,ta];exact a0
 generalize jS T0 x.s 1 10=T1 at*;obtain⟨s2,d,t⟩:=OI y l0 T1 [] s1 x.s C a1.1 (oz (by omega) (by omega) b (by simp) (Or.inl rfl))
 have m:∀q:Nat,11<=q->q<=17->({T1 with hole:=x.s.hole}:gW).get (q:Int)=0:=fun q h1 h2=>by rw[OK];exact K q h1 h2
 have a2:({T1 with hole:=x.s.hole}:gW).order=0/\({T1 with hole:=x.s.hole}:gW).glass={data:=#[]}:=⟨a1.2.1,a1.2.2⟩;generalize({T1 with hole:=x.s.hole}:gW)=T2 at*;obtain⟨E,e,u⟩:=wN y l0 T2 [] s2 x.s f (a:=11) (by omega) m (fun q h1 h2=>rY d (oz (by omega) (by omega) b (by simp) (Or.inr (Or.inr (Or.inr ⟨q,by omega,by omega,h2,rfl⟩)))) (mH (by omega) h2).2.2.2.2.1) 5 (by omega);have L:=CK (s:=x.s) (a:=11) (n:=5) (by omega) (by omega) m
 have a3:(jS T2 x.s 11 5).order=0/\(jS T2 x.s 11 5).glass={data:=#[]}:=by rw[vI,ta];exact a2
 generalize jS T2 x.s 11 5=T3 at*;obtain⟨F,j,v⟩:=Mj y l0 T3 [] E x.s D a3.1 (oz (by omega) (by omega) e (rY d (oz (by omega) (by omega) b (by simp) (Or.inr (Or.inl rfl))) (by decide+kernel)) (Or.inr (Or.inl rfl)))
 have M:∀q:Nat,16<=q->q<=17->({T3 with order:=x.s.order}:gW).get (q:Int)=0:=fun q h1 h2=>by rw[Ml];exact L q h1 h2
 have o:({T3 with order:=x.s.order}:gW).glass={data:=#[]}:=a3.2;generalize({T3 with order:=x.s.order}:gW)=T4 at*;obtain⟨H,B,w⟩:=wN y l0 T4 [] F x.s f (a:=16) (by omega) M (fun q h1 h2=>rY j (oz (by omega) (by omega) e (rY d (oz (by omega) (by omega) b (by simp) (Or.inr (Or.inr (Or.inr ⟨q,by omega,by omega,h2,rfl⟩)))) (mH (by omega) h2).2.2.2.2.1) (Or.inr (Or.inr (Or.inr ⟨q,by omega,by omega,h2,rfl⟩)))) (mH (by omega) h2).2.2.2.2.2) 2 (by omega)
 have p:(jS T4 x.s 16 2).glass={data:=#[]}:=by rw[ta];exact o
 generalize jS T4 x.s 16 2=T5 at*
 obtain⟨l,g⟩:=Mk y l0 T5 [] H x.s p
  (oz (by omega) (by omega) B (rY j (oz (by omega) (by omega) e (rY d (oz (by omega) (by omega) b (by simp) (Or.inr (Or.inr (Or.inl rfl)))) (by decide+kernel)) (Or.inr (Or.inr (Or.inl rfl)))) (by decide+kernel)) (Or.inr (Or.inr (Or.inl rfl))))
 rw[c]at g;refine⟨l,?_⟩;unfold AG;rw[ke,ke,ke,ke,ke,ke,r,aO,t,aO,u,aO,v,aO,w,aO,g,aO,CI y l0 x.s x l i _ (aa _),<- A,bf]
def OM(x)(b:tr x=true)(e:x.zs.length=x.zs.length/3*3)(y a)(c:4<=a)(d:a<=7)(sn):
 ∃seen,mq ⟨y,a,sn⟩ (sZ x)=some ⟨{y with l:=y.l++[x]},7,seen⟩:=by
 have f:=FZ b;obtain⟨seen,h⟩:=I6 x b e y y.l ((x.s.kind-1).toNat+1) (by omega);refine⟨seen,?_⟩;unfold sZ;rw[mq,nt (k:=7) (y:={y with l:=y.l++[lJ ((x.s.kind-1).toNat+1)]}) (by show a≠9;omega) (by decide+kernel) (Or.inr ⟨by omega,c,d⟩) (by unfold jk;simp only;rw[Mo (by omega)];rfl),aO];exact h
def CL:∀(l:List gM),(∀x∈l,tr x=true)->(∀x∈l,x.zs.length=x.zs.length/3*3)-> ∀(y:gR)(a:Int),4<=a->a<=7-> ∀sn:List mN,
 ∃a' d,4<=a'/\a'<=7/\mq ⟨y,a,sn⟩ (l.map sZ).flatten=some ⟨{y with l:=y.l++l},a',d⟩
 |[],_,_,y,a,h4,h7,sn=>⟨a,sn,h4,h7,by rw[bG];rfl⟩
 |x::l,ho,b,y,a,h4,h7,sn=>by
  obtain⟨s1,h1⟩:=OM x (ho x aG) (b x aG) y a h4 h7 sn;obtain⟨a',s2,b1,b2,h2⟩:=CL l (fun z b=>ho z (au _ b)) (fun z c=>b z (au _ c)) {y with l:=y.l++[x]} 7 (by omega) (by omega) s1;refine⟨a',s2,b1,b2,?_⟩;rw[aN,ce,ke,h1,aO,h2];simp
def yA(y:gR)(c0 nm zs sn)(a:∀i,i<zs.length/3->(0<=zs.getD (i*3) 0/\zs.getD (i*3) 0<=16)/\(1<=zs.getD (i*3+1) 0/\zs.getD (i*3+1) 0<=17)/\(-1000000000<=zs.getD (i*3+2) 0/\zs.getD (i*3+2) 0<=1000000000)):
 ∀n,n<=zs.length/3->mq ⟨{y with cf:=c0++[⟨nm,[]⟩]},8,sn⟩ ((List.range n).map (uK zs))=some ⟨{y with cf:=c0++[⟨nm,zs.take (n*3)⟩]},8,sn⟩
 |0,_=>by simp[mq]
 |n+1,h=>by
  obtain⟨h1,h2,h3⟩:=a n (by omega);rw[bV,aT,ke,yA y c0 nm zs sn a n (by omega),aO,aN,bI,oy];unfold uK;rw[IY rfl,qf];unfold sP;simp only;rw[up (by omega) (by omega)];simp only;rw[ny 0 (by omega) (by omega)];simp only;rw[ny _ (by omega) (by omega),AN (by omega),show(((zs.getD (n*3+1) 0).toNat:Nat):Int)=zs.getD (n*3+1) 0 by omega];rfl
def ON(c)(f:c.zs.length=c.zs.length/3*3)(e:∀i,i<c.zs.length/3->(0<=c.zs.getD (i*3) 0/\c.zs.getD (i*3) 0<=16)/\(1<=c.zs.getD (i*3+1) 0/\c.zs.getD (i*3+1) 0<=17)/\(-1000000000<=c.zs.getD (i*3+2) 0/\c.zs.getD (i*3+2) 0<=1000000000))(y a)(b:4<=a)(d:a<=8)(sn):mq ⟨y,a,sn⟩ (yz c)=some ⟨{y with cf:=y.cf++[c]},8,[]⟩:=by
 unfold yz;rw[mq,nt (k:=8) (y:={y with cf:=y.cf++[⟨c.nm,[]⟩]}) (by show a≠9;omega) (by decide+kernel) (Or.inr ⟨by omega,b,d⟩) (by unfold jk;simp only;rw[qO]),aO];have:=yA y y.cf c.nm c.zs [] e _ (aa _);rw[<- f,bf]at this;exact this
def CM:∀(l:List jd),(∀c∈l,c.zs.length=c.zs.length/3*3)->(∀c∈l,∀i,i<c.zs.length/3->(0<=c.zs.getD (i*3) 0/\c.zs.getD (i*3) 0<=16)/\(1<=c.zs.getD (i*3+1) 0/\c.zs.getD (i*3+1) 0<=17)/\(-1000000000<=c.zs.getD (i*3+2) 0/\c.zs.getD (i*3+2) 0<=1000000000))->
 ∀(y:gR)(a:Int),4<=a->a<=8-> ∀sn:List mN,∃a' b,4<=a'/\a'<=8/\mq ⟨y,a,sn⟩ (l.map yz).flatten=some ⟨{y with cf:=y.cf++l},a',b⟩
 |[],_,_,y,a,h4,h8,sn=>⟨a,sn,h4,h8,by rw[bG];rfl⟩
 |c::l,hz,hr,y,a,h4,h8,sn=>by
  have h1:=ON c (hz c aG) (hr c aG) y a h4 h8 sn;obtain⟨a',s2,b1,b2,h2⟩:=CM l (fun z h=>hz z (au _ h)) (fun z h=>hr z (au _ h)) {y with cf:=y.cf++[c]} 8 (by omega) (by omega) [];refine⟨a',s2,b1,b2,?_⟩;rw[aN,ce,ke,h1,aO,h2];simp
def AP(y fs)(b:y.fs=[])(a:∀i,i<fs.length/2->(-1000000000<=fs.getD (i*2) 0/\fs.getD (i*2) 0<=1000000000)/\(-1000000000<=fs.getD (i*2+1) 0/\fs.getD (i*2+1) 0<=1000000000))(sn):
 ∀n,n<=fs.length/2-> ∃a' c,4<=a'/\a'<=5/\mq ⟨y,4,sn⟩ ((List.range n).map (AH fs))=some ⟨{y with fs:=fs.take (n*2)},a',c⟩
 |0,_=>⟨4,sn,by omega,by omega,by rw[eB,dU,<- b];rfl⟩
 |n+1,h=>by
  obtain⟨a',s1,b1,b2,h1⟩:=AP y fs b a sn n (by omega);obtain⟨d,e⟩:=a n (by omega);refine⟨5,[],by omega,by omega,?_⟩;rw[bV,aT,ke,h1,aO,aN,bI,oy];unfold AH;rw[nt (k:=5) (y:={y with fs:=fs.take ((n+1)*2)}) (by show a'≠9;omega) (by decide+kernel) (Or.inr ⟨by omega,b1,b2⟩) (by unfold jk;simp only;rw[Gd d e,Gc (by omega)];rfl)];rfl
def CN(y ws)(e:y.ws=[])(d:∀i,i<ws.length/2->(0<=ws.getD (i*2) 0/\ws.getD (i*2) 0<=2500000)/\(1<=ws.getD (i*2+1) 0/\ws.getD (i*2+1) 0<=100))(a)(b:4<=a)(c:a<=6)(sn):
 ∀n,n<=ws.length/2-> ∃a' f,4<=a'/\a'<=6/\mq ⟨y,a,sn⟩ ((List.range n).map (FV ws))=some ⟨{y with ws:=ws.take (n*2)},a',f⟩
 |0,_=>⟨a,sn,b,c,by rw[eB,dU,<- e];rfl⟩
 |n+1,h=>by
  obtain⟨a',s1,b1,b2,h1⟩:=CN y ws e d a b c sn n (by omega);obtain⟨g,j⟩:=d n (by omega);refine⟨6,[],by omega,by omega,?_⟩;rw[bV,aT,ke,h1,aO,aN,bI,oy];unfold FV;rw[nt (k:=6) (y:={y with ws:=ws.take ((n+1)*2)}) (by show a'≠9;omega) (by decide+kernel) (Or.inr ⟨by omega,b1,b2⟩) (by unfold jk;simp only;rw[Gd (by omega) (by omega),Gc (by omega)];rfl)];rfl
def Ge(n d):iz n d≠lQ:=fun e=>by
 have:=(CF n d).2 105 (by rw[e];decide)
 revert this;decide
def OO(x)(a:0<=x.dist/\x.dist<=1000000000)(b:0<=x.pupil/\x.pupil<=1000000000)(c:0<=x.stop/\x.stop<=16)(d:0<=x.prim/\x.prim<=16):
 mq Ae (CH x)=some ⟨{mG with nm:=x.nm,dist:=x.dist,pupil:=x.pupil,stop:=x.stop,prim:=x.prim},4,[]⟩:=by
 unfold CH;rw[mq,nt (k:=0) (y:={mG with nm:=x.nm}) (by decide) (by decide+kernel) (Or.inl (by decide)) (by unfold jk;simp only;rw[qO];rfl),aO]
 rw[mq,nt (k:=1) (y:={mG with nm:=x.nm,dist:=x.dist}) (by simp) (by decide+kernel) (Or.inl (by simp)) (by
  unfold jk;simp only
  by_cases h0:x.dist=0
  .rw[aq h0,aq rfl,h0];rfl
  .rw[aj h0,aj (Ge _ _),ny 6 (by omega) (by omega)];rfl),aO]
 rw[mq,nt (k:=2) (y:={mG with nm:=x.nm,dist:=x.dist,pupil:=x.pupil}) (by simp) (by decide+kernel) (Or.inl (by simp)) (by unfold jk;simp only;rw[ny 6 (by omega) (by omega)];rfl),aO];rw[mq,nt (k:=3) (y:={mG with nm:=x.nm,dist:=x.dist,pupil:=x.pupil,stop:=x.stop}) (by simp) (by decide+kernel) (Or.inl (by simp)) (by unfold jk;simp only;rw[ny 0 (by omega) (by omega)];rfl),aO];rw[mq,nt (k:=4) (y:={mG with nm:=x.nm,dist:=x.dist,pupil:=x.pupil,stop:=x.stop,prim:=x.prim}) (by simp) (by decide+kernel) (Or.inl (by simp)) (by unfold jk;simp only;rw[ny 0 (by omega) (by omega)];rfl),aO];rfl
structure S0 (x:gR):Prop where
 fs:x.fs.length=x.fs.length/2*2
 ws:x.ws.length=x.ws.length/2*2
 l:∀y∈x.l,y.zs.length=y.zs.length/3*3
 cf:∀c∈x.cf,c.zs.length=c.zs.length/3*3
def Qb(y a)(b:4<=a)(c:a<=8)(sn):mq ⟨y,a,sn⟩ [[Fp]]=some ⟨y,9,[]⟩:=by
 rw[oy,nt (k:=9) (y:=y) (by show a≠9;omega) (by decide+kernel) (Or.inr ⟨by omega,b,by show a<=9;omega⟩) rfl];rfl
def OP{x}(h:iI x=true)(hw:S0 x):mq Ae (AI x)=some ⟨x,9,[]⟩:=by
 have a:=uH h;obtain⟨a1,s1,b1,b2,b⟩:=AP {mG with nm:=x.nm,dist:=x.dist,pupil:=x.pupil,stop:=x.stop,prim:=x.prim} x.fs rfl a.fs [] _ (aa _);rw[<- hw.fs,bf]at b;obtain⟨a2,s2,b3,b4,c⟩:=CN {mG with nm:=x.nm,dist:=x.dist,pupil:=x.pupil,stop:=x.stop,prim:=x.prim,fs:=x.fs} x.ws rfl a.ws a1 b1 (by omega) s1 _ (aa _);rw[<- hw.ws,bf]at c;obtain⟨a3,k,e,n,i⟩:=CL x.l a.l hw.l {mG with nm:=x.nm,dist:=x.dist,pupil:=x.pupil,stop:=x.stop,prim:=x.prim,fs:=x.fs,ws:=x.ws} a2 b3 (by omega) s2;obtain⟨d,m,f,g,j⟩:=CM x.cf hw.cf a.cf {mG with nm:=x.nm,dist:=x.dist,pupil:=x.pupil,stop:=x.stop,prim:=x.prim,fs:=x.fs,ws:=x.ws,l:=[]++x.l} a3 e (by omega) k;unfold AI;rw[ke,ke,ke,ke,ke,OO x a.dist a.pupil a.stop a.prim,aO,b,aO,c,aO,i,aO];rw[show(({mG with nm:=x.nm,dist:=x.dist,pupil:=x.pupil,stop:=x.stop,prim:=x.prim,fs:=x.fs,ws:=x.ws,l:=mG.l++x.l}):gR)={mG with nm:=x.nm,dist:=x.dist,pupil:=x.pupil,stop:=x.stop,prim:=x.prim,fs:=x.fs,ws:=x.ws,l:=[]++x.l} from rfl,j,aO,Qb _ d f g m];rfl
def Mp{x}(h:iI x=true)(hw:S0 x)(a:(nO x).length<=20000):nr (nO x)=⟨x,0,0⟩:=
 Mg (q:=⟨x,9,[]⟩) a (by rw[Mh h,OP h hw]) rfl h
def JU(ws:List mN):Nat:=(ws.map fun v=>v.length+1).sum
def kh:∀(ws:List mN),ws≠[]->(iF ws).length=JU ws
 |[],h=>(h rfl).elim
 |[x],_=>by simp[iF,nN,JU]
 |x::y::l,_=>by
  have h:=kh (y::l) (by simp);unfold iF at h⊢;rw[nN];unfold JU at h⊢;rw[aN,cO,<- h];simp;omega
def pL{α:Type}(f:α->List UInt8)(c):∀(l:List α),(∀a∈l,(f a).length<=c)->((l.map f).flatten).length<=c*l.length
 |[],_=>by simp
 |a::l,h=>by
  have h1:=h a aG;have h2:=pL f c l (fun b d=>h b (au _ d));rw[aN,ce,al,aH,Nat.mul_add];omega
def wO{n d}(h1: -1000000000<=n)(h2:n<=1000000000)(a:d<=9):(iz n d).length<=12:=by
 refine af (ro (k:=10-d) (d:=d) ?_ (by omega)) (by omega);rw[show 10-d+d=10 by omega];omega
def QC(p):oo p<=9:=by unfold oo;split;omega;split<;>omega
def CO{p}:(km p).length<=6:=by
 unfold km
 by_cases h:p-1<17
 .have:∀k,k<17->(kO.getD k []).length<=6:=by decide
  exact this _ h
 .rw[ah,bz (by show 17<=p-1;omega)]
  simp
def Mq{k}:(kP.getD k []).length<=8:=by
 by_cases h:k<4
 .have:∀k,k<4->(kP.getD k []).length<=8:=by decide
  exact this _ h
 .rw[ah,bz (by show 4<=k;omega)]
  simp
def I7{s}(h:kI s=true):(kb s).length<=16:=by
 unfold kI at h;simp only[am,aD]at h
 have e:s.size=(kb s).length:=by unfold kb;rw[fe];rfl
 omega
def OQ{s}(r:∀p:Int,-1000000000<=s.get p/\s.get p<=1000000000)(p):(Ld s p).length<=20:=by
 unfold Ld;split
 .simp
 .rw[kh _ (by simp)]
  have h1:=wO (d:=oo p) (r p).1 (r p).2 (QC p);have h2:=CO (p:=p);simp[JU];omega
def xy{s}(r:∀p:Int,-1000000000<=s.get p/\s.get p<=1000000000)(a n):(ub s a n).length<=20*n:=by
 have:=pL (fun i=>Ld s (a+i)) 20 (List.range n) (fun i _=>OQ r _);rw[dt]at this;exact this
def Mr{x}(h:tr x=true):(oq x).length<=648:=by
 obtain⟨a,o,p⟩:=uG h
 have m:x.zs.length/3<=8:=by
  have h1:oA x.s x.zs (x.zs.length/3)=true:=h;unfold oA at h1;rw[am]at h1;have b:pC x.s x.zs (x.zs.length/3) 6=true:=an.1 h1.1 6 (by decide);exact bZ b
 have a1:=xy a 1 10;have a2:=xy a 11 5;have a3:=xy a 16 2
 have c:(iF [nq,kP.getD (x.s.kind-1).toNat []]).length<=17:=by
  rw[kh _ (by simp)];have:=Mq (k:=(x.s.kind-1).toNat);simp only[JU,aN,bI,cO,dh];rw[show nq.length=7 from rfl];omega
 have e:(if x.s.hole=0 then[]else iF [lB,iz x.s.hole 6]).length<=18:=by
  split
  .simp
  .rw[kh _ (by simp)]
   have:=wO (n:=x.s.hole) (d:=6) (by omega) (by omega) (by omega);simp only[JU,aN,bI,cO,dh];rw[show lB.length=4 from rfl];omega
 have f:(if x.s.order=0 then[]else iF [kj,iz x.s.order 0]).length<=10:=by
  split
  .simp
  .rw[kh _ (by simp)]
   have:=ro (z:=x.s.order) (d:=0) (k:=1) (by rw[show(10:Nat)^(1+0)=10 from rfl];omega) (by omega);simp only[JU,aN,bI,cO,dh];rw[show kj.length=5 from rfl];omega
 have g:(if kb x.s.glass=[]then[]else iF [lP,kb x.s.glass]).length<=23:=by
  split
  .simp
  .rename_i hg
   rw[kh _ (by simp)];have:=I7 (AJ h hg);simp only[JU,aN,bI,cO,dh];rw[show lP.length=5 from rfl];omega
 have j:(((List.range (x.zs.length/3)).map (ms x.zs)).flatten).length<=30*8:=by
  refine af (pL (ms x.zs) 30 _ fun i hi=>?_) (by rw[dt];omega);have l:=wH h (aJ.1 hi);unfold ms;rw[kh _ (by simp)];have b1:=ro (z:=x.zs.getD (i*3) 0) (d:=7) (k:=1) (by rw[show(10:Nat)^(1+7)=100000000 from rfl];omega) (by omega);have b2:=ro (z:=x.zs.getD (i*3+1) 0) (d:=0) (k:=4) (by rw[show(10:Nat)^(4+0)=10000 from rfl];omega) (by omega);have b3:=ro (z:=x.zs.getD (i*3+2) 0) (d:=0) (k:=4) (by rw[show(10:Nat)^(4+0)=10000 from rfl];omega) (by omega);simp only[JU,aN,bI,cO,dh];rw[show lG.length=4 from rfl];omega
 unfold oq;simp only[al];omega
def Ms{c}(b:kI c.nm=true)(f:c.zs.length/3<=12)(e:∀i,i<c.zs.length/3->(0<=c.zs.getD (i*3) 0/\c.zs.getD (i*3) 0<=16)/\(1<=c.zs.getD (i*3+1) 0/\c.zs.getD (i*3+1) 0<=17)/\(-1000000000<=c.zs.getD (i*3+2) 0/\c.zs.getD (i*3+2) 0<=1000000000)):(ot c).length<=408:=by
 have a1:(iF [mc,kb c.nm]).length<=24:=by
  rw[kh _ (by simp)];have:=I7 b;simp only[JU,aN,bI,cO,dh];rw[show mc.length=6 from rfl];omega
 have a2:(((List.range (c.zs.length/3)).map (mK c.zs)).flatten).length<=32*12:=by
  refine af (pL (mK c.zs) 32 _ fun i hi=>?_) (by rw[dt];omega);obtain⟨g,h,a⟩:=e i (aJ.1 hi);unfold mK;rw[kh _ (by simp)];have b1:=ro (z:=c.zs.getD (i*3) 0) (d:=0) (k:=2) (by rw[show(10:Nat)^(2+0)=100 from rfl];omega) (by omega);have b2:=CO (p:=(c.zs.getD (i*3+1) 0).toNat);have b3:=wO (d:=oo (c.zs.getD (i*3+1) 0).toNat) a.1 a.2 (QC _);simp only[JU,aN,bI,cO,dh];rw[show lj.length=6 from rfl];omega
 unfold ot;rw[al];omega
def Gf{x}(h:iI x=true):(nO x).length<=20000:=by
 have a:=uH h
 have e:∀k,k<6->jO x k=true:=fun k o=>an.1 h k (aJ.2 o)
 have h2:jx x.dist x.fs (x.fs.length/2)=true:=e 2 (by omega);have h3:kz x.prim x.ws (x.ws.length/2)=true:=e 3 (by omega);have f:iW x.stop x.l=true:=e 4 (by omega);have h5:jo x.l x.cf=true:=e 5 (by omega);unfold jx at h2;rw[am]at h2;have u:=rV h2.2;unfold kz at h3;simp only[am]at h3;have v:=rV h3.1.2;unfold iW at f;simp only[am]at f;have w:=rV f.1.1.1.1;unfold jo at h5;simp only[am,aD]at h5;have A:=h5.1.2
 have a1:(Fq x).length<=100:=by
  have b0:=I7 (AL h);have b1:=wO (n:=x.dist) (d:=6) (by have:=a.dist;omega) (by have:=a.dist;omega) (by omega);have b2:=wO (n:=x.pupil) (d:=6) (by have:=a.pupil;omega) (by have:=a.pupil;omega) (by omega);have b3:=ro (z:=x.stop) (d:=0) (k:=2) (by have:=a.stop;rw[show(10:Nat)^(2+0)=100 from rfl];omega) (by omega);have b4:=ro (z:=x.prim) (d:=0) (k:=2) (by have:=a.prim;rw[show(10:Nat)^(2+0)=100 from rfl];omega) (by omega)
  have t:(if x.dist=0 then lQ else iz x.dist 6).length<=12:=by
   split
   .decide
   .exact b1
  unfold Fq;simp only[al];rw[kh _ (by simp),kh _ (by simp),kh _ (by simp),kh _ (by simp),kh _ (by simp)];simp only[JU,aN,bI,cO,dh];rw[show xZ.length=4 from rfl,show sO.length=6 from rfl,show vA.length=5 from rfl,show Aa.length=4 from rfl,show qJ.length=7 from rfl];omega
 have a2:(((List.range (x.fs.length/2)).map (nE x.fs)).flatten).length<=32*5:=by
  refine af (pL (nE x.fs) 32 _ fun i hi=>?_) (by rw[dt];omega);obtain⟨j,m⟩:=a.fs i (aJ.1 hi);unfold nE;rw[kh _ (by simp)];have b1:=wO (d:=6) j.1 j.2 (by omega);have b2:=wO (d:=6) m.1 m.2 (by omega);simp only[JU,aN,bI,cO,dh];rw[show vB.length=5 from rfl];omega
 have a3:(((List.range (x.ws.length/2)).map (qK x.ws)).flatten).length<=32*5:=by
  refine af (pL (qK x.ws) 32 _ fun i hi=>?_) (by rw[dt];omega);obtain⟨j,m⟩:=a.ws i (aJ.1 hi);unfold qK;rw[kh _ (by simp)];have b1:=wO (n:=x.ws.getD (i*2) 0) (d:=3) (by omega) (by omega) (by omega);have b2:=wO (n:=x.ws.getD (i*2+1) 0) (d:=0) (by omega) (by omega) (by omega);simp only[JU,aN,bI,cO,dh];rw[show Ab.length=4 from rfl];omega
 have q:((x.l.map oq).flatten).length<=648*16:=af (pL oq 648 _ fun y p=>Mr (a.l y p)) (by omega)
 have r:((x.cf.map ot).flatten).length<=408*4:=by
  refine af (pL ot 408 _ fun c g=>Ms (AK h c g) ?_ (a.cf c g)) (by omega);have b:=an.1 h5.1.1 c g;unfold lr at b;split at b
  .cases b
  .exact bZ b
 have s:(iF [Fp]).length<=4:=by decide
 unfold nO;simp only[al];omega
def Mt{x}(h:iI x=true)(hw:S0 x):nr (nO x)=⟨x,0,0⟩:=Mp h hw (Gf h)
end Go.Proofs.YtgohdcccfkjooaaGreatDoor
