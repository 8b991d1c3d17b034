import Derived.Test.YtgohdcccfkjooaaGreatDoorSAP
import Derived.Deep.Slices
namespace Go.Proofs.YtgohdcccfkjooaaGreatDoor
set_option linter.all false
set_option maxRecDepth 100000
set_option maxHeartbeats 12800000
open Go.Proofs.Tryz Go.RowKit Go.ChangeShapes Go.WideShapes Go.ChangeAt
def zO(x:gR)(a:Int):List gM:=if a<0 then x.l else match x.cf[a.toNat]? with
 |some c=>(tu x.l c.zs (c.zs.length/3)).getD x.l
 |none=>x.l
def TR(x:gR)(a:Int):gR:={x with l:=zO x a,cf:=[]}
def Ic(D:Nat->Prop)(w:World)(x:gR)(a:Int)(e:Ending)(w':World):Prop:=
 ∃f v s k,e=.returned (.tuple #[jG (TR x a) f v s k,oZ])/\mj (fun b=>D b\/(w.heap.size<=b/\b<w'.heap.size)) w' (TR x a) f v s k/\Below w w w'
def Jy{x a}(h:a<0):TR x a={x with cf:=[]}:=by unfold TR zO;rw[aq h]
def Jz{x}{i:Nat}{c}(d:iI x=true)(h:x.cf[i]? =some c):∃l',tu x.l c.zs (c.zs.length/3)=some l'/\c.zs.length/3<=12:=by
 have h5:jO x 5=true:=an.1 d 5 (by decide);have b:jo x.l x.cf=true:=h5;unfold jo at b;simp only[am]at b;have a:lr x.l c=true:=an.1 b.1.1 c (aL h);unfold lr at a;split at a
 .cases a
 .rename_i l' hl'
  exact⟨l',hl',by simpa using a⟩
def KQ(x f v s k w)(D:Nat->Prop)(hD:∀b,D b->b<w.heap.size)(d:Int)(u:mj D w x f v s k)(hv:iI x=true)(h1: -1<=d)(h2:d<0):
 Calls prog 75 #[jG x f v s k,d] w (Ic D w x d):=by
 have a1:x.cf.length=k.n:=u.at'.cf.1;have Hx:=O u;have Hv:=O hv;have E:=O (u.at'.kept (gN.refl _ _) hD:iP (fun b=>b<w.heap.size) w x f v s k);clear u hv;obtain⟨e1,e2⟩:=iN w (.cells (iw x f v s k).toArray 37) (.cells #[ik,oZ,oZ,oZ,oZ,oN,oN,oN,oN] 37);have a:=iH (w:=w) (.cells (iw x f v s k).toArray 37) (.cells #[ik,oZ,oZ,oZ,oZ,oN,oN,oN,oN] 37);have N:=O e1;have P:=O e2;have j:=O a;clear e1 e2 a;unfold jG;go_enter func75,ntmps75;go_upto_region 1 with fail;refine gI (fun g=>hU g w 37 x f v s k/\g.heap[w.heap.size+1]? =some (.cells #[ik,oZ,oZ,oZ,oZ,oN,oN,oN,oN] 37 (0,0))/\Below w w g) ⟨N,P,j⟩ ?_;clear N P j;rintro w1 ⟨F,m,a⟩;have r:=TK m
 have a0:w.heap.size<w1.heap.size:=by omega
 have M:=O F;have R:=O m;have j:=O a;clear F m a
 have L:bt d (-1) ((k.n:Int)-1)=true:=by unfold bt;simp;omega
 have T:=O L;clear L;have a2:k.n<=1000000:=E.kn
 go_upto_if 19 with(first
  |(refine it M rfl (.tmp 2) rfl rfl ?_)
  |((with_reducible refine(sw x f v s k _ (E.out.go j.out)).mono ?_);rintro e w2 ⟨q,a⟩;rw[Hv]at q;subst q;have B:=O (I j a);have l:=O (M.go a);have y:=O ((a.block _ r).trans R);obtain⟨_,_,_,_,_,_,_,c7,X⟩:=l.cells;have i:=ab r a.size;clear a)
  |((with_reducible refine(ix d (-1) _ _).mono ?_);rintro e w3 ⟨q,a⟩;rw[T]at q;subst q;have C:=O (I B a);have c:=O (l.go a);have z:=O ((a.block _ i).trans y);clear a))
 have a4:¬(0<=d):=by omega
 have X:=c.cells.2.2.2.2.2.2.2.2;have f8:=c.free 8;have t:=c.lt;go_upto_region 8 with fail;refine gI (fun g=>hU g w 37 {x with cf:=[]} f v s ⟨none,0,0⟩/\g.heap[w.heap.size+1]? =some (.cells #[ik,oZ,oZ,oZ,oZ,oN,oN,oN,oN] 37 (0,0))/\Below w w g) ⟨gG c 8 _,gF z ⟨w.heap.size,8,none⟩ (by simp) _,C.setCell (p:=⟨w.heap.size,8,none⟩) (aa _) _⟩ ?_;clear M R j B l y C c z c7 X f8 i a0 r t;rintro w4 ⟨h14,o,H⟩;have a3:=TK o;have Q:=O h14;have A:=O o;have S:=O H;clear h14 o H
 go_wp2_with(first
  |(refine it Q rfl (.tmp 2) rfl rfl ?_)
  |(refine ja {x with cf:=[]} f v s ⟨none,0,0⟩ A rfl rfl (.tmp 4) (.tmp 34) rfl rfl rfl ?_;intro w6 h6 e6;have H6:=O h6;have W:=O e6;clear h6 e6 A))
 refine ar (vW rfl rfl rfl H6) rfl ?_
 have K:Below w w w6:=by rw[W];exact ig (bY _) _ _ S
 refine⟨f,v,s,⟨none,0,0⟩,by rw[Jy h2];rfl,?_,K⟩;rw[Jy h2];exact(Hx.go K hD (fun b h=>VR h)).bare
def KR(x f v s k w)(D:Nat->Prop)(hD:∀b,D b->b<w.heap.size)(ci)(hx:mj D w x f v s k)(hv:iI x=true)(h1:0<=ci)(h2:ci<(x.cf.length:Int)):
 Calls prog 75 #[jG x f v s k,ci] w (Ic D w x ci):=by
 have f9:x.cf.length=k.n:=hx.at'.cf.1;obtain⟨i,rfl⟩:∃i:Nat,ci=(i:Int):=⟨ci.toNat,by omega⟩
 have d8:i<k.n:=by omega
 obtain⟨q,B,y,h5,ek,d9,a8,⟨ya,yn,yc,rfl,a9,g7,h4,g6⟩,e8⟩:=hx.at'.cf.at d8;have f5:=Jz hv a8;obtain⟨l',z,b0⟩:=f5
 have P:TR x (i:Int)={x with l:=l',cf:=[]}:=by
  unfold TR zO;rw[aj (by omega),aI,a8];simp only[z,Option.getD_some]
 have a0:yn=y.zs.length/3:=mU a9;rw[<- a0]at z;have c1:=O z;have L:=O P;have f4:=O (a9.ir hD);have k1:=e8 1 _ rfl;have K1:=O k1;have e0:l'.length=s.n:=(zx z).trans hx.at'.l.1;have c3:=O e0;clear z P a9 e8 k1 e0 a8 g6 a0 b0;obtain⟨ka,kn,kc⟩:=k;obtain⟨sa,sn,sc⟩:=s;simp only at ek f9 d8 c3;subst ek;have Hx:=O hx;have Hv:=O hv;have M:=O (hx.at'.kept (gN.refl _ _) hD:iP (fun b=>b<w.heap.size) w x f v ⟨sa,sn,sc⟩ ⟨some ⟨q,B,none⟩,kn,kc⟩);clear hx hv;obtain⟨e1,e2⟩:=iN w (.cells (iw x f v ⟨sa,sn,sc⟩ ⟨some ⟨q,B,none⟩,kn,kc⟩).toArray 37) (.cells #[ik,oZ,oZ,oZ,oZ,oN,oN,oN,oN] 37);have a:=iH (w:=w) (.cells (iw x f v ⟨sa,sn,sc⟩ ⟨some ⟨q,B,none⟩,kn,kc⟩).toArray 37) (.cells #[ik,oZ,oZ,oZ,oZ,oN,oN,oN,oN] 37);have E1:=O e1;have E2:=O e2;have Hb:=O a;clear e1 e2 a;unfold jG;go_enter func75,ntmps75;go_upto_region 1 with fail;refine gI (fun d=>hU d w 37 x f v ⟨sa,sn,sc⟩ ⟨some ⟨q,B,none⟩,kn,kc⟩/\d.heap[w.heap.size+1]? =some (.cells #[ik,oZ,oZ,oZ,oZ,oN,oN,oN,oN] 37 (0,0))/\Below w w d) ⟨E1,E2,Hb⟩ ?_;clear E1 E2 Hb;rintro w1 ⟨d0,a2,a⟩;have a6:=TK a2
 have g0:w.heap.size<w1.heap.size:=by omega
 have H1:=O d0;have H2:=O a2;have Hb:=O a;clear d0 a2 a
 have d7:bt (i:Int) (-1) ((kn:Int)-1)=true:=by unfold bt;simp;omega
 have f2:=O d7;clear d7;have g9:kn<=1000000:=M.kn
 go_upto_if 19 with(first
  |(refine it H1 rfl (.tmp 2) rfl rfl ?_)
  |((with_reducible refine(sw x f v ⟨sa,sn,sc⟩ ⟨some ⟨q,B,none⟩,kn,kc⟩ _ (M.out.go Hb.out)).mono ?_);rintro e w2 ⟨he,a⟩;rw[Hv]at he;subst he;have b8:=O (I Hb a);have a1:=O (H1.go a);have b4:=O ((a.block _ a6).trans H2);obtain⟨_,_,_,_,_,_,_,c7,c8⟩:=a1.cells;have X:=ab a6 a.size;clear a)
  |((with_reducible refine(ix (i:Int) (-1) _ _).mono ?_);rintro e w3 ⟨he,a⟩;rw[f2]at he;subst he;have j:=O (I b8 a);have F:=O (a1.go a);have H:=O ((a.block _ X).trans b4);clear a))
 have h3:0<=(i:Int):=by omega
 have e6:sn<=1000000:=M.sn;obtain⟨_,_,_,_,_,_,_,c6,c9⟩:=F.cells;have S:=F.lt;have g8:=TK H;have b1:q<w3.heap.size:=ab (hD _ d9) j.size;have k1:=(j.cell (p:=⟨q,B+i*2+1,none⟩) (hD _ d9)).trans K1;clear c7 c8;go_upto_region 6 with fail;refine ic 12 [11] [] [(0,true),(1,true),(2,true),(3,true),(4,true),(5,true),(6,true),(7,true),(8,false),(9,true),(10,true),(11,true)] (by kernel_rfl) (by kernel_rfl) ⟨by simp,by simp,fun _ h=>by cases h⟩ (fun _ _ _ _ _ h=>h) (fun _ _ o _ _ h=>by cases o<;>exact h) ?_
 iterate 8
  refine gZ (v:=?_) ?_ ?_;rotate_left
  .intro y hy
   have y7:=(hy.cell (p:=⟨w.heap.size,7,none⟩) S).trans c6;have y8:=(hy.cell (p:=⟨w.heap.size,8,none⟩) S).trans c9;have y1:=(hy.cell (p:=⟨q,B+i*2+1,none⟩) b1).trans k1;go_simp;with_reducible rfl
  try simp only[V]
 clear c6 c9 k1;refine iK (fun xa e7 K hK=>?_);go_simp;have A:=gJ (k:=1) e7;have a7:=j.trans (A.mono j.size);refine(wW x.l y.zs sa ya sn sc yn yc xa ((M.go a7).l) e6 (f4.go a7) g7).mono ?_;rintro e w5 (⟨g3,_⟩|⟨c,v5,W,rfl,ho,a4⟩)
 .exact absurd (g3.symm.trans c1) (by simp)
 obtain rfl:c=l':=by have:=W.symm.trans c1;simpa using this
 obtain⟨C,E,rfl,f6⟩:=ho.r.sl;refine hK _ _ a4 ?_;clear hK K;(try simp only[V]);have Q:=A.trans (a4.mono A.size);have Ho:=O ho;have m:=O Q;have N:=O A.size;clear ho Q e7 A a7 a4 W f6
 iterate 2
  refine gZ (v:=?_) ?_ ?_;rotate_left
  .intro y hy
   skip;go_simp;with_reducible rfl
  try simp only[V]
 iterate 1
  refine iy (v:=?_) ?_ ?_;rotate_left
  .intro y
   go_simp;with_reducible rfl
  try simp only[V]
 refine jV rfl (fun w6 a5=>?_);(try simp only[V]);have g:=m.trans (a5.mono m.size);have t:=F.go g;have d2:=(g.block _ (TK H)).trans H;have e3:=Ho.go a5;have R:=j.trans (g.mono j.size);have c7:=t.cells.2.2.2.2.2.2.2.1;have f7:=t.free 7;have g1:=t.lt;have b2:=O t;have b5:=O d2;have c4:=O e3;have b9:=O R;clear g t d2 e3 R a5 Ho m;go_upto_region 7 with fail;refine gI (fun d=>hU d w 37 {x with l:=c} f v ⟨C,c.length,E⟩ ⟨some ⟨q,B,none⟩,kn,kc⟩/\d.heap[w.heap.size+1]? =some (.cells #[ik,oZ,oZ,oZ,oZ,oN,oN,oN,oN] 37 (0,0))/\oJ xa d (.slice C c.length E) c/\Below w w d) ⟨gG b2 7 _,gF b5 ⟨w.heap.size,7,none⟩ (by simp) _,c4.keep ((gK w [_] 7 w6).mono (fun b h=>by have:=h.1;have:=N.out;omega)) (by simp),b9.setCell (p:=⟨w.heap.size,7,none⟩) (aa _) _⟩ ?_;clear b2 b5 c4 b9 c7 f7 g1 H1 H2 Hb b8 a1 b4 j F H X g0 a6;rintro w7 ⟨u,d3,e4,d4⟩;have c8:=u.cells.2.2.2.2.2.2.2.2;have f8:=u.free 8;have g2:=u.lt;have b3:=O u;have b6:=O d3;have c5:=O e4;have c0:=O d4;clear u d3 e4 d4;go_upto_region 8 with fail;refine gI (fun d=>hU d w 37 {x with l:=c,cf:=[]} f v ⟨C,c.length,E⟩ ⟨none,0,0⟩/\d.heap[w.heap.size+1]? =some (.cells #[ik,oZ,oZ,oZ,oZ,oN,oN,oN,oN] 37 (0,0))/\oJ xa d (.slice C c.length E) c/\Below w w d) ⟨gG b3 8 _,gF b6 ⟨w.heap.size,8,none⟩ (by simp) _,c5.keep ((gK w [_] 8 w7).mono (fun b h=>by have:=h.1;have:=N.out;omega)) (by simp),c0.setCell (p:=⟨w.heap.size,8,none⟩) (aa _) _⟩ ?_;clear b3 b6 c5 c0 c8 f8 g2;rintro w8 ⟨d1,a3,e5,d5⟩;have h0:=TK a3;have f0:=O d1;have b7:=O a3;have f3:=O e5;have f1:=O d5;clear d1 a3 e5 d5
 go_wp2_with(first
  |(refine it f0 rfl (.tmp 2) rfl rfl ?_)
  |(refine ja {x with l:=c,cf:=[]} f v ⟨C,c.length,E⟩ ⟨none,0,0⟩ b7 rfl rfl (.tmp 4) (.tmp 34) rfl rfl rfl ?_;intro w9 h9 e9;have H9:=O h9;have c2:=O e9;clear h9 e9 b7))
 refine ar (vW rfl rfl rfl H9) rfl ?_
 have d6:Below w w w9:=by rw[c2];exact ig (bY _) _ _ f1
 have g4:oJ xa w9 (.slice C c.length E) c:=by
  rw[c2];exact f3.keep ((gK (w+1) _ 0 w8).mono (fun b h=>by have:=h.1;have:=N.out;omega)) (by rw[im];exact aa _)
 have g5:w.heap.size<=xa.heap.size:=by have:=N.out;omega
 refine⟨f,v,⟨C,c.length,E⟩,⟨none,0,0⟩,by rw[L];rfl,?_,d6⟩;rw[L];exact mj.newl (Hx.at'.kept (T:=D) ((gE d6).mono hD) (fun b h=>h)) (fun b h=>ab (hD b h) g5) g4 (by rw[c3];exact e6) (fun b h=>VR h) (fun b h1 h2=>VS ⟨by omega,h2⟩)
def KS(x f v s k w)(D:Nat->Prop)(c:∀b,D b->b<w.heap.size)(a)(e:mj D w x f v s k)(d:iI x=true)(h1: -1<=a)(h2:a<(x.cf.length:Int)):
 Calls prog 75 #[jG x f v s k,a] w (Ic D w x a):=by
 by_cases h:a<0
 .exact KQ x f v s k w D c a e d h1 h
 .exact KR x f v s k w D c a e d (by omega) h2
def Bk(w):
 Calls prog 37 #[] w (fun e w'=>∃a c,e=.returned (.slice a 3 c)/\RR EQ 10 (fun b=>w.heap.size<=b/\b<w'.heap.size) w' a 3 c np/\Below w w w'):=by
 go_enter func37,ntmps37;go_wp2;go_ret;refine⟨_,_,rfl,?_,gY (TH _ _)⟩;refine⟨rfl,aa _,fun _=>⟨w.heap.size,0,rfl,⟨aa _,by simp⟩,fun i x d=>?_⟩⟩;have g:=TL w (.cells (AW.cells++D8.cells++Cg.cells).toArray 168)
 match i,d with
 |0,d=>
  obtain rfl:AW=x:=by simpa[np]using d
  exact⟨_,⟨rfl,by decide⟩,fun j v f=>by
   have k:j<10:=(TG.1 f).1
   have e:(AW.cells++D8.cells++Cg.cells)[j]? =some v:=by rw[aC,aF k];exact f
   have h:=gA g j;rw[bo,e]at h;rw[show 0+0*10+j=j by omega]
   exact h⟩
 |1,d=>
  obtain rfl:D8=x:=by simpa[np]using d
  exact⟨_,⟨rfl,by decide⟩,fun j v f=>(gA g (10+j)).trans (by have k:j<10:=(TG.1 f).1;rw[bo,aC,aY (by show 10<=10+j;omega),aF (by show 10+j-10<10;omega)];rw[show 10+j-AW.cells.length=j by show 10+j-10=j;omega];exact f)⟩
 |2,d=>
  obtain rfl:Cg=x:=by simpa[np]using d
  exact⟨_,⟨rfl,by decide⟩,fun j v f=>(gA g (20+j)).trans (by have k:j<10:=(TG.1 f).1;rw[bo,aC,aY (by show 10<=20+j;omega),aY (by show 10<=20+j-10;omega)];rw[show 20+j-AW.cells.length-D8.cells.length=j by show 20+j-10-10=j;omega];exact f)⟩
 |i+3,d=>simp[np]at d
def qF(l:List gM):Prop:=∀y∈l,∃k,k<5/\y.s.i7=kM k
def Ck:Ch np where
 ok:=fun g d=>(EP d).1
 ne:=by
  intro i j x y a b c;have hi:i<3:=(TG.1 a).1
  match i,hi,j,c with
  |1,_,0,_=>cases a;cases b;decide+kernel
  |2,_,0,_=>cases a;cases b;decide+kernel
  |2,_,1,_=>cases a;cases b;decide+kernel
 len:=by decide
def xj{ws}(hw:xV ws (ws.length/2)){g}(a:g∈np):∀j,j<ws.length/2->g.lo<=ws.getD (j*2) 0/\ws.getD (j*2) 0<=g.hi/\g.Far (ws.getD (j*2) 0)/\ ∃A S,Sx g (ws.getD (j*2) 0) A S:=by
 intro j b;obtain⟨h1,h2⟩:=hw j b;obtain⟨_,c,d⟩:=EP a;exact⟨by omega,by omega,KJ a h1 h2,KL a h1 h2⟩
def KT{ws y l i}(hw:xV ws (ws.length/2))(a:∃k,k<5/\y.s.i7=kM k)(h1:zN l i y=false)(h2:y.s.i7.toList.isEmpty=false):Ia np ws y:=by
 obtain⟨k,b,e⟩:=a
 match k,b,e with
 |0,_,e=>rw[e]at h2;exact absurd h2 (by decide+kernel)
 |1,_,e=>exact⟨0,AW,rfl,e.symm,xj hw (by simp[np])⟩
 |2,_,e=>exact⟨1,D8,rfl,e.symm,xj hw (by simp[np])⟩
 |3,_,e=>
  unfold zN at h1;rw[e,show((kM 3).toList==Dm)=true from by decide+kernel]at h1;simp at h1
 |4,_,e=>exact⟨2,Cg,rfl,e.symm,xj hw (by simp[np])⟩
def PH(m:Nat):pB (List Int):=fun S w zs cs=>∃a c,cs=[.slice a m c]/\IRp S w 1 a m c zs/\(a=none->c=0)/\xg zs
def EY(m:Nat):kR 1 (PH m) where
 len:=by rintro S w x cs ⟨a,c,rfl,_⟩;rfl
 kept:=by rintro S T w w' x cs ⟨a,c,e,h,r⟩ d f;exact⟨a,c,e,h.kept d f,r⟩
 one:=by rintro S w x cs ⟨a,c,rfl,_⟩ v b;simp only[aS,bi,cR]at b;obtain rfl:=b;rfl
def yK(x:gR)(f v s k p:iJ):List Value:=[.string x.nm,.int .i64 x.i6,.int .i64 x.p9,.int .i64 x.stop,.int .i64 x.prim,.slice f.a f.n f.c,.slice v.a v.n v.c,.slice s.a s.n s.c,.slice k.a k.n k.c,.slice p.a p.n p.c]
def xk(w:World)(g:Nat)(x:gR)(f v s k p:iJ):Prop:=w.heap[g]? =some (.cells (yK x f v s k p).toArray 40 (0,0))
def If(x:gR)(f v s k p:iJ):Value:=.agg #[x.nm,x.i6,x.p9,x.stop,x.prim,Z f.a f.n f.c,Z v.a v.n v.c,Z s.a s.n s.c,Z k.a k.n k.c,Z p.a p.n p.c]
def Tryz.infoOpt:(prog.info? 40).map (·.size)=some 10:=by kernel_rfl
def Tryz.infoInts:(prog.info? 162).map (fun i=>(i.zero,i.size,i.bytes))=some (some (.slice none 0 0),1,24):=by kernel_rfl
def rA{ops b e d w}{Q:Exit->Act->World->Prop}{g cs}(x f v s k p)(h:w.heap[g]? =some (.cells cs 40 (0,0)))(i:cs.size=10)(j:e.guard=none)(y z)(m:e.op=.store 40 y z)(o:d.eval y=.pointer (J g))(q:d.eval z=.agg #[x.nm,x.i6,x.p9,x.stop,x.prim,Z f.a f.n f.c,Z v.a v.n v.c,Z s.a s.n s.c,Z k.a k.n k.c,Z p.a p.n p.c])(l:∀w',xk w' g x f v s k p->w'=w.setCells g 0 (yK x f v s k p)->wpList prog ops Q b (d.put e.dst undef) w'):wpList prog ops Q (e::b) d w:=
 wpList_store_mid j 40 y z m g 0 _ o q (tF h i) Tryz.infoOpt (by simp[Value.oneCell']) (l _ (tE h i) rfl)
def xk.range{w g x f v s k p}(h:xk w g x f v s k p):w.rangeAt g 0 (yK x f v s k p):=xK h
def xk.lt{w g x f v s k p}(h:xk w g x f v s k p):g<w.heap.size:=TK h
def xk.go{w w' g x f v s k p}(h:xk w g x f v s k p)(a:Below w w w'):xk w' g x f v s k p:=(a.block g h.lt).trans h
def ww{ops b d e w}{Q:Exit->Act->World->Prop}{g x f v s k p}(h:xk w g x f v s k p)(i:d.guard=none)(y)(l:d.op=.load 40 y)(m:e.eval y=.pointer (J g))(j:wpList prog ops Q b (e.put d.dst (.agg #[x.nm,x.i6,x.p9,x.stop,x.prim,Z f.a f.n f.c,Z v.a v.n v.c,Z s.a s.n s.c,Z k.a k.n k.c,Z p.a p.n p.c])) w):wpList prog ops Q (d::b) e w:=
 wpList_load_mid i 40 y l g 0 m (yK x f v s k p) _ h.range underlying40 rfl Tryz.infoOpt j
def EZ{fn p u tmps w g x f v s k q e}(h:fn.results=#[.cell p 40,.tmp u])(a:tmps.getD p undef=.pointer (J g))(c:tmps.getD u undef=e)(b:xk w g x f v s k q):
 (results fn tmps).run prog w=.ok (.tuple #[If x f v s k q,e]) w:=by
 rw[results_cell_tmp h,a,c];simp only[asAddr,cT,bU];rw[run_loadVar_row w g 40 40 _ (0,0) _ b underlying40 rfl Tryz.infoOpt];rfl
def PI{fn p tmps w g x f v s k q}(h:fn.results=#[.cell p 40])(a:tmps.getD p undef=.pointer (J g))(b:xk w g x f v s k q):
 (results fn tmps).run prog w=.ok (If x f v s k q) w:=
 results_cell_row h tmps w g 40 _ (0,0) _ a b underlying40 rfl Tryz.infoOpt
def qH(k):∃j,j<5/\kM k=kM j:=match k with
 |0=>⟨0,by omega,rfl⟩
 |1=>⟨1,by omega,rfl⟩
 |2=>⟨2,by omega,rfl⟩
 |3=>⟨3,by omega,rfl⟩
 |_+4=>⟨4,by omega,rfl⟩
def Ih(x):∃k,k<5/\(oh x).s.i7=kM k:=by
 unfold oh
 repeat' split
 .exact qH _
 .exact qH _
 .exact⟨0,by omega,rfl⟩
 .exact⟨0,by omega,rfl⟩
 .exact qH _
 .exact qH _
 .exact qH _
def tW(c t):∃k,k<5/\(jB c t).i7=kM k:=⟨0,by omega,rfl⟩
def Ii(x):qF (Dp x):=by
 have h0:qF (om x):=by
  unfold om;split
  .intro y a;obtain rfl:=aK.1 a;exact tW _ _
  .intro y a
   obtain⟨z,_,rfl⟩:=cP.1 a;exact Ih z
 have h1:qF (zU x):=by
  unfold zU;split
  .intro y a
   obtain a|rfl:=bH a
   .exact h0 y a
   .exact tW _ _
  .exact h0
 intro y a
 obtain a|a:=bj.1 a
 .exact h1 y a
 .obtain rfl:=aK.1 a;exact tW _ _
def Cn(s:gW){p}(v)(h1:1<=p)(h2:p<=17):(s.put p v).i7=s.i7/\(s.put p v).kind=s.kind/\(s.put p v).order=s.order/\(p≠9->(s.put p v).t8=s.t8):=by
 obtain rfl|rfl|rfl|rfl|rfl|rfl|rfl|rfl|rfl|rfl|rfl|rfl|rfl|rfl|rfl|rfl|rfl:=oL h1 h2
 all_goals first|exact⟨rfl,rfl,rfl,fun _=>rfl⟩|exact⟨rfl,rfl,rfl,fun h=>absurd rfl h⟩
def JE{l i p v}(h:nT l i p v=true):∃(k:Nat)(y:gM),i=(k:Int)/\l[k]? =some y/\qy l i p v=l.set k ⟨y.s.put p v,y.zs⟩/\tr ⟨y.s.put p v,y.zs⟩=true/\(p≠9\/k+1<l.length)/\1<=p/\p<=17:=by
 have c:=h;unfold nT at c;simp only[am]at c;obtain⟨b,a⟩:=c;obtain⟨k,y,rfl,g,d,f,e⟩:=MR b;rw[aI,d]at a;simp only[aD]at a;refine⟨k,y,rfl,d,?_,?_,?_,oM e⟩
 .unfold qy
  rw[aI,d];simp only;rw[aq h]
 .unfold mw at a
  split at a
  .split at a
   .assumption
   .cases a
  .contradiction
 .unfold qx at b
  simp only[am,dN,fk,aD]at b
  obtain h9|h9:=b.2
  .exact VR h9
  .exact VS (by omega)
def Ij{l}(h:qF l){i p v}(d:nT l i p v=true):qF (qy l i p v):=by
 obtain⟨k,y,rfl,f,e,_,_,g,m⟩:=JE d;rw[e];intro z a
 obtain a|rfl:=bH a
 .exact h z a
 .obtain⟨j,c,b⟩:=h y (aL f)
  exact⟨j,c,(Cn y.s v g m).1.trans b⟩
def KX{stop l i p v}(h:iW stop l=true)(q:nT l i p v=true):iW stop (qy l i p v)=true:=by
 obtain⟨k,y,rfl,d,e,m,j,u,w⟩:=JE q;obtain⟨k1,o,r,t⟩:=Cn y.s v u w;have x:k<l.length:=(TG.1 d).1;rw[e];unfold iW at h⊢;simp only[am]at h⊢;obtain⟨⟨⟨⟨h1,h2⟩,h3⟩,b⟩,h5⟩:=h;rw[dL];refine⟨⟨⟨⟨h1,h2⟩,?_⟩,?_⟩,?_⟩
 .unfold uM at h3⊢
  rw[di,du]at h3⊢;intro z f
  obtain f|rfl:=bH f
  .exact h3 z f
  .rw[m];decide
 .unfold pe at b⊢
  rw[dL,cF];by_cases a:k=l.length-1
  .rw[aq a]
   rw[<- a,d]at b;rw[aq (by omega)];simp only at b⊢
   have n:p≠9:=by
    obtain h|h:=j
    .exact h
    .omega
   unfold pM at b⊢;rw[k1,o,r,t n];exact b
  .rw[aj a]
   exact b
 .have g:kU (l.set k ⟨y.s.put p v,y.zs⟩) stop=kU l stop:=by
   unfold kU;rw[cF];by_cases c:k=stop.toNat
   .rw[aq c,aq (by omega),<- c,d]
    exact o
   .rw[aj c]
  rw[g];exact h5
def Ff{l zs n l'}(h:tu l zs (n+1)=some l'):∃l0,tu l zs n=some l0/\nT l0 (zs.getD (n*3) 0) (zs.getD (n*3+1) 0) (zs.getD (n*3+2) 0)=true/\l'=qy l0 (zs.getD (n*3) 0) (zs.getD (n*3+1) 0) (zs.getD (n*3+2) 0):=by
 rw[tu]at h
 cases hc:tu l zs n with
 |none=>rw[hc]at h;cases h
 |some l0=>
  rw[hc]at h;simp only[aO]at h;split at h
  .rename_i hh
   cases h;exact⟨l0,rfl,hh.2,rfl⟩
  .cases h
def Co{l zs}(h:qF l):∀{n:Nat}{l':List gM},tu l zs n=some l'->qF l'
 |0,l',e=>by cases e;exact h
 |n+1,l',e=>by
  obtain⟨l0,e0,a,rfl⟩:=Ff e;exact Ij (Co h e0) a
def Fg{stop l zs}(h:iW stop l=true):∀{n:Nat}{l':List gM},tu l zs n=some l'->iW stop l'=true
 |0,l',e=>by cases e;exact h
 |n+1,l',e=>by
  obtain⟨l0,e0,a,rfl⟩:=Ff e;exact KX (Fg h e0) a
def zV{x a}(e:iI x=true)(h2:a<(x.cf.length:Int)):zO x a=x.l\/ ∃(zs:List Int)(n:Nat),tu x.l zs n=some (zO x a):=by
 by_cases h:a<0
 .left;unfold zO;rw[aq h]
 .right
  obtain⟨i,rfl⟩:∃i:Nat,a=(i:Int):=⟨a.toNat,by omega⟩;obtain⟨c,b⟩:∃c,x.cf[i]? =some c:=⟨_,ae (by omega)⟩;obtain⟨l',d,_⟩:=Jz e b;refine⟨c.zs,c.zs.length/3,?_⟩;unfold zO;rw[aj h,aI,b];simp only[d,Option.getD_some]
def KY{x a}(h:qF x.l)(b:iI x=true)(h2:a<(x.cf.length:Int)):qF (zO x a):=by
 obtain e|⟨zs,n,e⟩:=zV b h2
 .rw[e];exact h
 .exact Co h e
def KZ{x b}(f:iI x=true)(h2:b<(x.cf.length:Int)):iI (TR x b)=true:=by
 have a:∀j,j<6->jO x j=true:=fun j c=>an.1 f j (aJ.2 c)
 have g:iW x.stop (zO x b)=true:=by
  obtain e|⟨zs,n,e⟩:=zV f h2
  .rw[e];exact a 4 (by omega)
  .exact Fg (a 4 (by omega)) e
 refine an.2 fun j c=>?_
 have d:=aJ.1 c
 match j,d with
 |0,_=>exact a 0 (by omega)
 |1,_=>exact a 1 (by omega)
 |2,_=>exact a 2 (by omega)
 |3,_=>exact a 3 (by omega)
 |4,_=>exact g
 |5,_=>rfl
def PJ(D:Nat->Prop)(w:World)(x:gR)(g:Int)(e:Ending)(w':World):Prop:=
 ∃f v s k p d,e=.returned (.tuple #[If (TR x g) f v s k p,oZ])/\mj (fun b=>D b\/(w.heap.size<=b/\b<w'.heap.size)) w' (TR x g) f v s k/\RR (PH v.n) 1 (fun b=>w.heap.size<=b/\b<w'.heap.size) w' p.a p.n p.c d/\d.length=(TR x g).l.length/\Below w w w'
def PK{x}(h:iI x=true):1<=x.ws.length/2/\x.ws.length/2<=5:=by
 have h3:jO x 3=true:=an.1 h 3 (by decide);have a:kz x.prim x.ws (x.ws.length/2)=true:=h3;unfold kz at a;simp only[am]at a;have:=a.1.2;unfold bt at this;simp at this;omega
def Np(x f v s k w)(D:Nat->Prop)(X:∀b,D b->b<w.heap.size)(H ga gc)(hx:mj D w x f v s k)(hv:iI x=true)(h1: -1<=H)(h2:H<(x.cf.length:Int))(g8:RR EQ 10 (fun b=>b<w.heap.size) w ga 3 gc np)(h8:xV x.ws (x.ws.length/2))(hgl:qF (zO x H)):
 Calls prog 36 #[jG x f v s k,Z ga 3 gc,H] w (PJ D w x H):=by
 have Hx:=O hx;have Hv:=O hv;have e8:=O g8;have j7:=O h8;have j0:=O hgl;have j2:=O (hx.at'.kept (gN.refl _ _) X:iP (fun b=>b<w.heap.size) w x f v s k);clear hx hv g8 h8 hgl;obtain⟨e1,e2⟩:=iN w (.cells (iw x f v s k).toArray 37) (.cells #[ik,oZ,oZ,oZ,oZ,oN,oN,oN,oN,oN] 40);have L:=iH (w:=w) (.cells (iw x f v s k).toArray 37) (.cells #[ik,oZ,oZ,oZ,oZ,oN,oN,oN,oN,oN] 40);have E1:=O e1;have E2:=O e2;have g:=O L;clear e1 e2 L;unfold jG;go_enter func36,ntmps36;go_upto_region 1 with fail;refine gI (fun B=>hU B w 37 x f v s k/\B.heap[w.heap.size+1]? =some (.cells #[ik,oZ,oZ,oZ,oZ,oN,oN,oN,oN,oN] 40 (0,0))/\Below w w B) ⟨E1,E2,g⟩ ?_;clear E1 E2 g;rintro w1 ⟨f5,f8,L⟩;have H1:=O f5;have H2:=O f8;have g:=O L;clear f5 f8 L
 go_wp2_with(refine it H1 rfl (.tmp 3) rfl rfl ?_)
 refine(sw x f v s k _ (j2.go g)).mono ?_;rintro e w2 ⟨he,a8⟩;rw[Hv]at he;subst he;have f6:=H1.go a8;have g0:=(a8.block _ (TK H2)).trans H2;have b8:=O (I g a8);have d9:=O f6;have b7:=O g0;clear a8 f6 g0 H1 H2 g;go_wp2_with fail;refine(Dl np ga 3 gc _ (e8.go wl b8) Ck).mono ?_;rintro e w3 ⟨rfl,a9⟩;have f7:=d9.go a9;have g1:=(a9.block _ (TK b7)).trans b7;have a1:=O (I b8 a9);have e0:=O f7;have a0:=O g1;clear a9 f7 g1 d9 b7 b8
 go_wp2_with(refine it e0 rfl (.tmp 3) rfl rfl ?_)
 have i0:=Hx.go (E:=D) a1 X (fun b h=>h);refine(KS x f v s k w3 D (fun b h=>ab (X b h) a1.size) H i0 Hv h1 h2).mono ?_;clear i0;rintro e S ⟨K,v4,s4,N,he,u,o⟩;obtain⟨y,hy⟩:∃y,y=TR x H:=⟨_,rfl⟩;rw[<- hy]at he u;unfold jG at he;subst he
 have d4:y.ws=x.ws:=by rw[hy];rfl
 have i1:y.l=zO x H:=by rw[hy];rfl
 have d2:v4.n=x.ws.length/2:=by rw[<- d4];exact qW u.at'.ws
 have d1:y.l.length=s4.n:=u.at'.l.1;have k8:s4.n<=1000000:=u.at'.sn;have k9:=PK Hv;have c2:=(o.block _ (TK a0)).trans a0;have a2:=O (I a1 o);have f3:=O u;have i5:=O c2;have Hy:=O hy;have j9:=O d4;have j8:=O i1;have f2:=O d1;have d7:=TK c2;have l0:=TK a0;obtain⟨sa,n,P⟩:=s4;obtain⟨Q,m,R⟩:=v4;simp only at d2 d1 k8
 have k7:m<=5:=by omega
 have l7:1<=m:=by omega
 have l5:=O d2;clear o u c2 e0 a0 a1 hy d4 i1 d2 d1 k9;go_upto_region 7 with fail;refine gI (fun B=>hU B S 37 y K ⟨Q,m,R⟩ ⟨sa,n,P⟩ N/\Below S S B) ⟨TL S _,gY (TH _ _)⟩ ?_;rintro d ⟨h5,g6⟩;have C:=O h5;have b9:=O g6;clear h5 g6
 go_upto_region 10 with(refine it C rfl (.tmp 9) rfl rfl ?_)
 refine gI (fun B=>xk B d y K ⟨Q,m,R⟩ ⟨sa,n,P⟩ N ⟨none,0,0⟩/\Below d d B) ⟨TL d _,gY (TH _ _)⟩ ?_;rintro w6 ⟨h6,g7⟩;have W:=O h6;have c0:=O g7;clear h6 g7;have a6:=C.go c0;have l6:=C.lt;have k6:=W.lt;obtain⟨_,_,_,_,_,_,c6,c7,_⟩:=a6.cells;have b0:=b9.trans (c0.mono b9.size);have d8:=a6.lt;have e3:=O a6;have z:=O b0;clear a6 b0 C;go_wp2_with fail;refine(Jx m w6 (by omega)).mono ?_;rintro e w7 ⟨ov,qs,rfl,ho,rfl,b1⟩;obtain⟨oa,oc,rfl,q1,q2⟩:=lc ho;have g2:=e3.go b1;have g5:=W.go b1;have l4:=b9.size;have f0:=O q1;have f1:=O (q2.kept (T:=fun b=>b<w7.heap.size) (gN.refl _ _) (fun b h=>h.2));have e4:=O g2;have e5:=O g5;have a3:=O (z.trans (b1.mono z.size));clear ho b1 q1 q2 g2 g5 c6 c7 e3 W z k6 d8 c0;go_wp2_with fail
 go_loopw [12,13] (fun av iv wr=>∃(i:Nat)(za:Option Addr)(zc:Nat)(zs:List Int)(r:iJ)(j:List (List Int)),i<=n/\iv=.int .i64 (i:Int)/\av=.slice za m zc/\IRp (fun b=>b<wr.heap.size) wr 1 za m zc zs/\(za=none->zc=0)/\xg zs/\j.length=i/\jD (PH m) 1 162 (d+1) wr r.v j/\hU wr S 37 y K ⟨Q,m,R⟩ ⟨sa,n,P⟩ N/\xk wr d y K ⟨Q,m,R⟩ ⟨sa,n,P⟩ N r/\Below S S wr) (fun _ iv _=>n-(intOf iv).toNat)
 case atStart=>exact⟨0,oa,oc,_,⟨none,0,0⟩,[],by omega,rfl,rfl,f1,f0,EU m,rfl,jD.nil _ _ _ _ _,e4,e5,a3⟩
 case round=>
  clear f0 f1 e4 e5 a3;obtain⟨i,za,zc,zs,r,j,hi,rfl,rfl,hz,i3,i4,h3,h4,h5,h6,L⟩:=hrel;obtain⟨_,_,_,_,_,_,_,c7,_⟩:=h5.cells;have l1:=h5.lt;have l3:=h6.lt;have Hz:=O hz;have k0:=O i3;have k1:=O i4;have a5:=O h3;have F:=O h4;have C:=O h5;have W:=O h6;have g:=O L;clear hz i3 i4 h3 h4 h5 h6 L;by_cases k5:i<n
  .obtain⟨yi,d3⟩:∃yi,y.l[i]? =some yi:=⟨_,ae (by rw[f2];exact k5)⟩
   have b5:=aL d3;have g9:iP (fun b=>b<wr.heap.size) wr y K ⟨Q,m,R⟩ ⟨sa,n,P⟩ N:=f3.at'.kept ((gE g).mono (fun b h=>by obtain h|h:=h;have:=X b h;omega;exact h.2)) (fun b h=>by have:=g.size;obtain h|h:=h;have:=X b h;omega;have:=h.2;omega);have b3:=e8.go wl (a2.trans (g.mono a2.size))
   have h7:zN y.l i yi=false->yi.s.i7.toList.isEmpty=false->Ia np y.ws yi:=fun q1 q2=>KT (by rw[j9];exact j7) (j0 yi (by rw[<- j8];exact b5)) q1 q2
   have i9:=O (show∀b,wr.heap.size<=b->r.v.ownBlock≠some b from fun b h=>F.fresh h);have a4:=O (Ib y K ⟨Q,m,R⟩ ⟨sa,n,P⟩ N np ga 3 gc i yi za zc zs wr g9 d3 b3 Ck Hz k0 k1 k7 h7);clear d3 b5 g9 b3 h7
   go_wp2_with(refine it C rfl (.tmp 9) rfl rfl ?_)
   refine a4.mono ?_;rintro e w8 ⟨na,nc,nz,rfl,c8,c4,c5,t⟩;have g4:=C.go t;have a7:=W.go t;have l8:=t.size;have b6:=F.go (EY m) t;have c9:w8.cell? ⟨d.heap.size,9,none⟩=some (.slice r.a r.n r.c):=(gA a7 9).trans rfl;have l2:=a7.lt;have b4:PH m (fun b=>d.heap.size+1<=b/\b<w8.heap.size/\r.v.ownBlock≠some b) w8 nz [Z na m nc]:=⟨na,nc,rfl,c8.kept (gN.refl _ _) (fun b h=>⟨by have:=h.1;omega,h.2,F.fresh h.1⟩),c4,c5⟩;have i6:=O g4;have e6:=O a7;have d6:=O b6;have d5:=O b4;have j5:=O c8;have j3:=O c4;have j4:=O c5;have i8:=O (g.trans (t.mono g.size));clear g4 a7 b6 b4 c8 c4 c5 t a4 C W F g c7
   go_wp2_with(refine kA (EY m) underlying38 Tryz.infoInts rfl (by omega) (by omega) rfl (.tmp 62) (.tmp 64) rfl (d+1) w8 _ j nz [Z na m nc] i a5 rfl d6 rfl rfl d5 (by rw[a5];omega) (by omega) ?_;intro g3 A q h0 o M d0;have j6:=O h0;have e7:=O o;have j1:=O M;have c9:=(((o _ _ (aa _) (TH (d+1) w8)).cell (p:=⟨d.heap.size,9,none⟩) (dk _))).trans c9;have f9:q.frozen? ⟨d.heap.size,9,none⟩=false:=(by rw[World.frozen?,(o _ _ (aa _) (TH (d+1) w8)).block d (dk _),e6];rfl);clear h0 o M)
   go_roundw
   case rel=>
    have b2:=e7 _ _ (aa _) (TH (d+1) w8);have c3:gN (fun b=>b≠d.heap.size) q (q.setCell ⟨d.heap.size,9,none⟩ (.slice (J g3) (i+1) A)):=gK d [_] 9 q
    have i2:(q.setCell ⟨d.heap.size,9,none⟩ (.slice (J g3) (i+1) A)).heap.size=q.heap.size:=by simp
    refine⟨i+1,na,nc,nz,⟨some ⟨g3,0,none⟩,i+1,A⟩,j++[nz],by omega,by go_num,rfl,?_,j3,j4,by rw[al,a5];rfl,?_,?_,?_,?_⟩
    .exact(j5.kept (T:=fun b=>wr.heap.size<=b/\b<q.heap.size) (j1.mono (fun b h=>⟨h.2,i9 b h.1⟩)) (fun b h=>⟨h.1,ab h.2 d0⟩)).kept (c3.mono (fun b h=>by have:=h.1;omega)) (fun b h=>by rw[i2];exact h.2)
    .exact j6.keep (EY m) (c3.mono (fun b h=>by have:=h.1;omega)) (by rw[i2];exact aa _)
    .exact(c3 _ (by omega)).trans ((b2.block _ (by omega)).trans i6)
    .exact gG ((b2.block _ (dk _)).trans e6) 9 _
    .exact(e7 _ _ (by omega) i8).setCell (p:=⟨d.heap.size,9,none⟩) (by show S.heap.size<=d.heap.size;omega) _
   case measure=>simp[intOf];omega
  .obtain rfl:i=n:=by omega
   have k2:=(g.block _ d7).trans i5
   go_wp2_with(first
    |(refine ww W rfl (.tmp 11) rfl rfl ?_)
    |(refine rA y K ⟨Q,m,R⟩ ⟨sa,i,P⟩ N r k2 rfl rfl (.tmp 6) (.tmp 68) rfl rfl rfl ?_;intro q h9 e9;have H9:=O h9;have c1:=O e9;clear h9 e9))
   refine ar (EZ rfl rfl rfl H9) rfl ?_
   have M:gN (fun b=>b≠w.heap.size+1) wr q:=by rw[c1];exact gK _ _ _ _
   have d0:q.heap.size=wr.heap.size:=by rw[c1,im]
   have k3:Below w w q:=by rw[c1];exact ig (bY _) _ _ (a2.trans (g.mono a2.size))
   refine⟨K,⟨Q,m,R⟩,⟨sa,i,P⟩,N,r,j,by rw[<- Hy];rfl,?_,?_,?_,k3⟩
   .rw[<- Hy]
    exact f3.keep (((gE g).mono (fun b h=>by obtain h|h:=h;have:=X b h;omega;exact h.2)).trans (M.mono (fun b h=>by obtain h|h:=h;have:=X b h;omega;have:=h.1;omega))) (fun b h=>by
     have:=g.size
     obtain h|h:=h
     .exact VR h
     .exact VS ⟨by have:=h.1;omega,by have:=h.2;omega⟩)
   .exact((jD.rr2 (EY m) F).kept (EY m) (M.mono (fun b h=>by have:=h.1;omega)) (fun b h=>⟨by have:=h.1;omega,by rw[d0];exact h.2⟩))
   .rw[<- Hy,a5,f2]
def PM{ws n}{p:Int}(b:1<=n)(h5:n<=5)(a:(List.range n).all (jM ws)=true)(h0:0<=p)(h1:p<n):kz p ws n=true:=by
 unfold kz;rw[a];simp[bt];omega
def PN{far zs n}(b:1<=n)(h5:n<=5)(a:(List.range n).all (iV (jj far) zs)=true):jx far zs n=true:=by
 unfold jx;rw[a];simp[bt];omega
def K6(x s f v k w)(hx:xU (fun b=>b<w.heap.size) w x s f v k):
 Calls prog 35 #[EW x s f v k] w (SD x w):=by
 obtain⟨sa,n,sc⟩:=s;have Hx:=O hx;clear hx;obtain⟨e1,e2⟩:=iN w (.cells (lI x ⟨sa,n,sc⟩ f v k).toArray 28) (.cells #[ik,oZ,oZ,oZ,oZ,oN,oN,oN,oN] 37);have hb:=iH (w:=w) (.cells (lI x ⟨sa,n,sc⟩ f v k).toArray 28) (.cells #[ik,oZ,oZ,oZ,oZ,oN,oN,oN,oN] 37);have E1:=O e1;have E2:=O e2;have Hb:=O hb;clear e1 e2 hb;go_enter func35,ntmps35;go_upto_region 1 with fail;refine gI (Ig w x ⟨sa,n,sc⟩ f v k (.slice none 0 0) []) ⟨⟨[],rfl,jD.nil _ _ _ _ _,qu.nil,fun _ h=>by cases h⟩,E1.out,E2.out,Hb.out,fun _ h=>by cases h⟩ ?_;clear E1 E2 Hb;rintro w1 A;have r:=O A;clear A;go_wp2_with fail
 go_loopw [3,4] (fun sv iv wr=>∃(i:Nat)(l:List gM),i<=5/\i<=n/\l=(x.surfs.take i).map oh/\l.length=i/\iv=.int .i64 (i:Int)/\Ig w x ⟨sa,n,sc⟩ f v k sv l wr) (fun _ iv _=>5-(intOf iv).toNat)
 case atStart=>exact⟨0,[],by omega,by omega,rfl,rfl,rfl,r.out⟩
 case round=>
  clear r;obtain⟨i,l,hi,p5,j7,hl,rfl,A⟩:=hrel;have g7:=O j7;clear j7;have c0:=A.d.cells.1;have hlt:=A.d.lt;have k2:=A.size;have r:=O A;have Hl:=O hl;clear A hl;by_cases d1:i<n/\i<5
  .obtain⟨d1,q8⟩:=d1
   obtain⟨bs,so,y,cs,e1,r0,l7,⟨ya,yn,yc,rfl,l1,l4⟩,a8⟩:=(Hx.out.kept (gE r.out.b) (fun b h=>h)).s.at d1
   try simp only at e1
   subst e1;have n4:=O l1;have n5:=O l4;have n6:=O a8;have n8:=O l7;clear l1 l4 a8 l7
   go_wp2_with(first
    |(refine wu n6.out rfl (.tmp 22) rfl rfl ?_)
    |(go_at_call 68;refine(KU y ya yn yc _ (n4.out.kept (gN.refl _ _) (fun b h=>ab h r.out.b.size)) n5.out).mono ?_;rintro e w2 ⟨ys,ca,cn,cc,zs,l5,rfl,b8,i0,i1,F,j0,b6⟩;have n7:=O l5;have e4:=O b8;have q4:=O i0;have m0:=O i1;have b4:=O F;have m7:=O j0;have q3:=O b6;have m1:=O (r.out.go b6);have o5:=b6.size;obtain⟨lq,t,u,E,C⟩:=r.out.q;have W:=(mD lq).symm.trans (ai List.length t);have b3:=O t;have Hq:=O (u.go jX b6);have b1:=O E;have b5:=O C;have Q:=O W;clear t u E C W;clear l5 b8 i0 i1 F j0 b6)
    |(refine kA jX underlying34 Tryz.infoSurf3 rfl (by omega) (by omega) rfl (.tmp 18) (.tmp 25) rfl (w+2) w2 _ lq ⟨⟨ys,zs⟩,wr.heap.size,w2.heap.size⟩ (gX ys ca cn cc) l.length Q.out rfl Hq.out rfl rfl ⟨ca,cn,cc,rfl,e4.out.kept (gN.refl _ _) (fun b h=>⟨⟨by omega,h.2,r.out.o.fresh h.1⟩,h⟩),by have:=m0.out;omega,m7.out⟩ (by rw[Q.out,Hl.out];omega) (by omega) ?_;intro g3 a2 w8 X R _ _;have D:=O (m1.out.more b3.out b1.out b5.out (aa _) o5 (aa _) (by unfold tr;rw[<- mU e4.out.irp];exact b4.out) X R);clear X R))
   go_roundw
   case rel=>exact⟨i+1,_,by omega,by omega,by rw[g7.out,n7.out,mn n8.out,aT];rfl,by rw[al,Hl.out];rfl,by go_num,D.out⟩
   case measure=>simp[intOf];omega
  .have l0:¬i<n\/(i<n/\ ¬i<5):=by omega
   have d4:l=JD x:=by
    rw[g7.out];unfold JD;have hn:x.surfs.length=n:=Hx.out.s.1;by_cases h5:i=5
    .rw[h5]
    .rw[aM (by omega:x.surfs.length<=i),aM (by omega:x.surfs.length<=5)]
   have c8:=O d4;clear d4;clear d1
   obtain⟨oa,oc,rfl⟩:∃oa oc,u3=.slice oa i oc:=by
    obtain⟨a,c,e,_⟩:=jD.sl r.out.o;rw[Hl.out]at e;exact⟨a,c,e⟩
   go_upto_region 3 with fail
   go_cut [15] (fun v wx=>v=.bool false/\wr=wx)
   case first=>
    obtain hx|⟨hx,hx4⟩:=l0
    all_goals
     go_wp2;go_meet;exact⟨by first|rfl|(simp;omega),rfl⟩
   case rest=>
    obtain⟨rfl,rfl⟩:=hcut;clear l0 c0
    go_upto_if 29 with fail
    go_cut [3] (fun sv wx=>∃(l:List gM),1<=l.length/\l.length<=5/\l=om x/\Ig w x ⟨sa,n,sc⟩ f v k sv l wx)
    case first=>
     by_cases d0:i=0
     .have f7:((i:Int)==0)=true:=by simp;omega
      have F:tr ⟨jB 0 10000000,[]⟩=true:=wA (by omega) (by omega);have b4:=O F;clear F;have b8:=IRp.nil (fun b=>w.heap.size+2<=b/\b<wr.heap.size/\(Value.slice oa i oc).ownBlock≠some b) wr 3 none 0;have e4:=O b8
      have q7:i+1<=5:=by omega
      have i4:l++[⟨jB 0 10000000,[]⟩]=om x:=by
       unfold om;rw[<- c8.out,aq (by rw[Hl.out];exact d0)];rw[aX.1 (by rw[Hl.out];exact d0:l.length=0)];rfl
      have m3:=O i4;clear b8 d0 i4;obtain⟨lq,t,u,E,C⟩:=r.out.q;have W:=(mD lq).symm.trans (ai List.length t);have b3:=O t;have Hq:=O u;have b1:=O E;have b5:=O C;have Q:=O W;clear t u E C W
      go_wp2_with(refine kA jX underlying34 Tryz.infoSurf3 rfl (by omega) (by omega) rfl (.tmp 30) (.tmp 32) rfl (w+2) wr _ lq ⟨⟨jB 0 10000000,[]⟩,wr.heap.size,wr.heap.size⟩ (gX (jB 0 10000000) none 0 0) l.length Q.out rfl Hq.out rfl rfl ⟨none,0,0,rfl,jN.nil _ _,by omega,lD 0⟩ (by rw[Q.out,Hl.out];omega) (by omega) ?_;intro g3 a2 w8 X R _ _;have D:=O (r.out.more b3.out b1.out b5.out (aa _) (aa _) (aa _) b4.out X R);clear X R)
      go_meet;exact⟨_,by rw[al,Hl.out];simp,by rw[al,Hl.out];simp;omega,m3.out,D.out⟩
     .have f7:((i:Int)==0)=false:=by simp;omega
      go_wp2;go_meet;exact⟨l,by rw[Hl.out];omega,by rw[Hl.out];omega,(by unfold om;rw[<- c8.out,aj (by rw[Hl.out];exact d0)]),r.out⟩
    case rest=>
     obtain⟨m,h1,h5,j5,A⟩:=hcut;have e5:=O j5;clear j5;clear r Hl k2 hlt
     obtain⟨g,oc,rfl,q6,o2⟩:∃g oc,u3=.slice (J g) m.length oc/\w.heap.size+2<=g/\g<wc.heap.size:=by
      obtain ⟨_,e2⟩|⟨g,cap,e,q1,q2,_⟩:=A.o.form
      .rw[e2]at h1;cases h1
      .exact⟨g,cap,e,q1,q2⟩
     obtain⟨f9,g0⟩:=Hx.out.stop
     obtain⟨B,e8,a6⟩:∃B:Nat,x.stop% (m.length:Int)=(B:Int)/\B<m.length:=by
      have h0:=dq x.stop (by omega:(m.length:Int)≠0);have h1:=da x.stop (by omega:(0:Int) <(m.length:Int));exact⟨(x.stop% (m.length:Int)).toNat,by omega,by omega⟩
     have c1:=A.d.cells.2.1;have hlt:=A.d.lt;obtain⟨r6,⟨ya,yn,yc,rfl,f2,o8,o6,o7⟩,a8⟩:=A.o.at iD a6;have a3:=A.ok m[B] (cW a6)
     have l6: -1000000000<=m[B].s.t8/\m[B].s.t8<=1000000000:=by
      unfold tr at a3;rw[<- mU f2]at a3;exact Ns f2.1 a3
     have k0:=a8 0 _ rfl;have o9:=a8 12 _ rfl;rw[bE]at k0
     have j2:kU m B=m[B].s.kind:=by unfold kU;rw[aI,ae a6]
     have k3:Do m B=m[B].s.t8:=by unfold Do;rw[ae a6]
     have k1:zT x=B:=by unfold zT;rw[<- e5.out,e8];exact aI B
     generalize m[B].s.kind=kd at*;generalize m[B].s.t8=th at*;have r:=O A;have c5:=O j2;have h8:=O l6;have n0:=O k3;have g9:=O k1;clear k3 k1 A f2 o8 o6 o7 a8 a3 j2 l6
     go_upto_if 45 with fail
     go_cut [] (fun wx=>∃P:List gM,P.length=m.length/\kU P B≠3/\P=zU x/\Ig w x ⟨sa,n,sc⟩ f v k (.slice (J g) m.length oc) P wx)
     case first=>
      by_cases S:kd=3
      .have d2:(kd==3)=true:=by simpa using S
       clear S;have F:tr ⟨jB 0 th,[]⟩=true:=wA (by omega) h8.out;obtain⟨lq,t,u,E,C⟩:=r.out.q
       have d6:B<lq.length:=by rw[<- mD,t];exact a6
       have d5:=u.set jX d6 (x:=⟨⟨jB 0 th,[]⟩,wc.heap.size,wc.heap.size⟩) (cs:=gX (jB 0 th) none 0 0) ⟨none,0,0,rfl,jN.nil _ _,by omega,lD 0⟩;have f1:=gK g (gX (jB 0 th) none 0 0) (B*22) wc
       have i3:Ig w x ⟨sa,n,sc⟩ f v k (.slice (J g) m.length oc) (m.set B ⟨jB 0 th,[]⟩) (wc.setCells g (B*22) (gX (jB 0 th) none 0 0)):=
        ⟨⟨_,by rw[El,t],d5,E.set (fun j y hy _=>VR (C y (aL hy)).2),(fun q u=>by
          rw[im]
          obtain u|rfl:=bH u
          .exact C q u
          .exact⟨aa _,aa _⟩)⟩,(f1 _ (by omega)).trans r.out.d,(f1 _ (by omega)).trans r.out.z,ig (by omega) _ _ r.out.b,fun q u=>by
          obtain u|rfl:=bH u
          .exact r.out.ok q u
          .exact F⟩
       have d3:kU (m.set B ⟨jB 0 th,[]⟩) B≠3:=by
        unfold kU;rw[aI,List.getElem?_set_self a6]
        show(1:Int)≠3
        omega
       have m2:=O i3;have f4:=O d3
       have N:m.set B ⟨jB 0 th,[]⟩=zU x:=by
        unfold zU;rw[<- e5.out,g9.out,c5.out,aq (by simpa using d2),n0.out]
       have b0:=O N;clear N;clear i3 d3 d5 f1 F t u E C d6
       go_wp2_with(refine pX (jB 0 th) none 0 0 (r.out.o.there a6) rfl (.tmp 54) (.tmp 53) rfl rfl rfl ?_)
       go_meet;exact⟨_,by simp,f4.out,b0.out,m2.out⟩
      .have d2:(kd==3)=false:=by simpa using S
       go_wp2;go_meet;exact⟨m,rfl,by rw[c5.out];exact S,(by unfold zU;rw[<- e5.out,g9.out,c5.out,aj S]),r.out⟩
     case rest=>
      obtain⟨P,j6,S,N,A⟩:=hcut;have b0:=O N;clear N;have d8:=O e8;clear r c5 h8 k0 o9 o2 e8 f9 g0 c1 hlt;have k2:=A.size;have hlt:=A.d.lt;have c7:=A.d.cells.2.2.2.2.2.2.2.1;have j1:=Hx.out.image;unfold qD at j1;have r:=O A;have a7:=O j6;have m8:=O S;clear A j6 S;have F:tr ⟨jB (1000*x.image) 0,[]⟩=true:=wA (by omega) (by omega);have b4:=O F;have q5:=O j1;clear F;obtain⟨lq,t,u,E,C⟩:=r.out.q;have W:=(mD lq).symm.trans (ai List.length t);have b3:=O t;have Hq:=O u;have b1:=O E;have b5:=O C;have Q:=O W;clear t u E C W
      go_upto_region 13 with(first
       |(refine kA jX underlying34 Tryz.infoSurf3 rfl (by omega) (by omega) rfl (.tmp 55) (.tmp 61) rfl (w+2) wc _ lq ⟨⟨jB (1000*x.image) 0,[]⟩,wc.heap.size,wc.heap.size⟩ (gX (jB (1000*x.image) 0) none 0 0) P.length Q.out rfl Hq.out rfl rfl ⟨none,0,0,rfl,jN.nil _ _,by omega,lD 0⟩ (by rw[Q.out,a7.out];omega) (by omega) ?_;intro g3 a2 w8 X R _ _;have D:=O (r.out.more b3.out b1.out b5.out (aa _) (aa _) (aa _) b4.out X R);clear X R)
       |(refine sK D.out.d.range rfl (.tmp 1) rfl rfl ?_)
       |(go_at_call 69;refine(Ie x ⟨sa,n,sc⟩ f v k _ ((Hx.out.kept (gE D.out.b) (fun b h=>h)).v.kept (gN.refl _ _) (fun b h=>ab h D.out.b.size))).mono ?_;rintro e w9 ⟨p3,a0,p4,vz,rfl,k8,k6,k4,k5,k7,k9,e9⟩;have n3:=O k9;clear k9;have h6:=O k8;have n1:=O k6;have e6:=O k4;have h2:=O k5;have n2:=O k7;have b9:=O (D.out.go e9);have g2:=O e9;clear k8 k6 k4 k5 k7 e9))
      obtain⟨w5,rfl⟩:∃w5:World,w5=w9:=⟨_,rfl⟩;have b7:=b9.out;have p6:=b7.d.lt;have r5:=TK b7.z;have q0:=b7.size;obtain⟨-,-,-,c3,-,-,c6,-,-⟩:=b7.d.cells;have o3:=Hx.out.p9;have j9:=Hx.out.prim;unfold og at o3 j9;have u0:IntKind.i64.wrap x.p9=x.p9:=TM _ (by omega);have u1:IntKind.i64.wrap (1+x.p9)=1+x.p9:=TM _ (by omega);have u2:IntKind.i64.wrap (100000*(1+x.p9))=100000*(1+x.p9):=TM _ (by omega);have u3:IntKind.i64.wrap x.prim=x.prim:=TM _ (by omega)
      have r4:¬a0=0:=by have:=e6.out;omega
      have j8:0<=x.prim.tmod a0/\x.prim.tmod a0<a0:=by
       have h1:=e6.out;rw[bu j9.1];exact⟨dq _ (by omega),da _ (by omega)⟩
      have g8:=O j8;clear b7 j8 c7;refine jw (w+1) [0,2,3,4,5,6,7,8,9,10,11,12,13,14,16,17,18,19] 5 (by kernel_rfl) rfl (by kernel_rfl) (by kernel_rfl) (fun _ _ o _ _ h=>by cases o<;>exact h) ?_
      have i2:∀y:World,Below (w+1) w5.drew y->oU y w x ⟨sa,n,sc⟩ f v k:=fun y hy=>(hy.block w (dk _)).trans b9.out.d
      have c4:=O i2;clear i2;refine rB rfl (by rfl) c4.out _ rfl rfl ?_;try simp only[V]
      iterate 12
       refine jW (v:=?_) rfl (by rfl) ?_ ?_;rotate_left
       .intro y hy
        have z3:=(hy.cell (p:=⟨w.heap.size,3,none⟩) (dk _)).trans c3;have z6:=(hy.cell (p:=⟨w.heap.size,6,none⟩) (dk _)).trans c6;go_simp;with_reducible rfl
       try simp only[V]
      refine rB rfl (by rfl) c4.out _ rfl rfl ?_;try simp only[V]
      iterate 2
       refine jW (v:=?_) rfl (by rfl) ?_ ?_;rotate_left
       .intro y hy
        go_simp;with_reducible rfl
       try simp only[V]
      refine rB rfl (by rfl) c4.out _ rfl rfl ?_;try simp only[V]
      iterate 1
       refine jW (v:=?_) rfl (by rfl) ?_ ?_;rotate_left
       .intro y hy
        go_simp;with_reducible rfl
       try simp only[V]
      refine mB ?_;clear c3 c6 u0 u1 u2 u3 c4;have o1:Below w5 w5 w5.drew:=jA (TH _ _);refine ia (i:=1) (fun K L=>?_);go_simp;refine(JB x ⟨sa,n,sc⟩ f v k _ Hx.out.far).mono ?_;rintro e wa ⟨rfl,f0⟩;refine L _ _ (f0.mono (by show w.heap.size+1<=w5.heap.size;omega)) ?_;clear L K;(try simp only[V]);have H:Below w5 w5 wa:=gJ (k:=1) f0;have r1:=H.size;clear f0 o1;have c2:=O (b9.out.go H);have h3:=O (h6.out.kept ((gE H).mono (fun b h=>h.2)) (fun b h=>(⟨h.1,ab h.2 H.size⟩:w8.heap.size<=b/\b<wa.heap.size)));have d9:=O (g2.out.trans (H.mono g2.out.size));clear b9 h6 H;refine ia (i:=15) (fun K L=>?_);go_simp;refine(Fa x ⟨sa,n,sc⟩ f v k wa ((Hx.out.kept (gE c2.out.b) (fun b h=>h)).f.kept (gN.refl _ _) (fun b h=>ab h c2.out.b.size)) Hx.out.far).mono ?_;rintro e wb ⟨n9,h9,o0,fz,rfl,i9,i7,i5,i6,i8,a4⟩;refine L _ _ (a4.mono (by omega)) ?_;clear L K;(try simp only[V]);have r2:=a4.size;have b2:=O (c2.out.go a4);have h4:=O (h3.out.kept ((gE a4).mono (fun b h=>h.2)) (fun b h=>(⟨h.1,ab h.2 a4.size⟩:w8.heap.size<=b/\b<wb.heap.size)));have e0:=O (d9.out.trans (a4.mono d9.out.size));have g5:=O i9;have m5:=O i7;have m4:=O i5;have g4:=O i6;have m6:=O i8;clear c2 h3 a4 i9 i7 i5 i6 i8;refine ia (i:=20) (fun K L=>?_);go_simp
      have q9:(P++[(⟨jB (1000*x.image) 0,[]⟩:gM)]).length=P.length+1:=by rw[al];rfl
      refine(KV x ⟨sa,n,sc⟩ f v k (P++[⟨jB (1000*x.image) 0,[]⟩]) _ (P.length+1) a2 wb ((Hx.out.kept (gE b2.out.b) (fun b h=>h)).k.kept Id (gN.refl _ _) (fun b h=>ab h b2.out.b.size)) (b2.out.o.rr iD) (by omega) (by rw[a7.out];omega)).mono ?_;rintro e d7 ⟨p0,l8,p1,cf,rfl,j4,j3,c9,M⟩;refine L _ _ (M.mono (by omega)) ?_;clear L K;(try simp only[V]);have r3:=M.size;have e3:=O (b2.out.go M);have a1:=O (h4.out.kept ((gE M).mono (fun b h=>h.2)) (fun b h=>(⟨h.1,ab h.2 M.size⟩:w8.heap.size<=b/\b<d7.heap.size)));have a9:=O (g5.out.kept ((gE M).mono (fun b h=>h.2)) (fun b h=>(⟨by have:=h.1;have:=d9.out.size;omega,ab h.2 M.size⟩:w8.heap.size<=b/\b<d7.heap.size)));have l9:=O (e0.out.trans (M.mono e0.out.size));have f3:=O c9;clear c9;have g6:=O j4;have m9:=O j3;clear b2 h4 g5 M j4 j3;refine ia (i:=21) (fun K L=>?_);go_simp;refine L _ _ (TH _ _) ?_;clear L K;(try simp only[V]);refine mm (i:=22) (fun K L=>?_);refine ja ⟨⟨#[100,114,97,102,116]⟩,uP x,100000*(1+x.p9),x.stop% (m.length:Int),x.prim.tmod a0,fz,vz,P++[⟨jB (1000*x.image) 0,[]⟩],cf⟩ ⟨n9,h9,o0⟩ ⟨p3,a0,p4⟩ ⟨some ⟨g3,0,none⟩,P.length+1,a2⟩ ⟨p0,l8,p1⟩ e3.out.z rfl rfl (.tmp 2) (.tmp 86) rfl rfl rfl ?_;intro w7 h7 e7;refine L _ _ (by rw[e7];exact ig (aa _) _ _ (TH _ _)) ?_;clear L K;have H7:=O h7;have E7:=O e7;clear h7 e7;refine lH (by kernel_rfl) ?_;(try simp only[V]);go_wp2_with fail;refine ar (Fe rfl rfl H7.out) rfl ?_
      have T:gN (fun b=>b≠w.heap.size+1) d7 w7:=by rw[E7.out];exact gK _ _ _ _
      have a5:w7.heap.size=d7.heap.size:=by rw[E7.out,im]
      have f5:=D.out.ok;have p7:=D.out.size;have p8:=e0.out.size;obtain⟨p2,f8,o4,f6,g1⟩:=D.out.q;refine⟨_,_,_,_,_,rfl,⟨⟨?_,?_,?_,?_,?_,?_,?_,?_,m5.out,n1.out,(by decide:(ByteArray.mk #[100,114,97,102,116]).size<=9223372036854775807)⟩,⟨p2,0,w8.heap.size,f8,(((o4.go jX l9.out).keep jX (T.mono (fun b h=>by have:=h.1;omega)) (by omega)).rro jX).kept (BT jX _) (gN.refl _ _) (fun b h=>⟨by have:=h.1;omega,h.2⟩),f6,(fun q u=>⟨aA _,g1 q u⟩),?_,?_,?_⟩⟩,?_,(by show _=Dp x;unfold Dp;rw[<- b0.out]),rfl,rfl,(by rw[<- qW a1.out];exact n3.out),?_⟩
      .exact a9.out.kept (T.mono (fun b h=>by have:=h.1;omega)) (fun b h=>⟨by have:=h.1;omega,by rw[a5];exact h.2⟩)
      .exact a1.out.kept (T.mono (fun b h=>by have:=h.1;omega)) (fun b h=>⟨by have:=h.1;omega,by rw[a5];exact h.2⟩)
      .exact(jD.rr2 iD e3.out.o).kept iD (T.mono (fun b h=>by omega)) (fun b h=>⟨by have:=h.1;omega,by rw[a5];exact h.2⟩)
      .exact g6.out.kept ky (T.mono (fun b h=>by have:=h.1;omega)) (fun b h=>⟨by have:=h.1;omega,by rw[a5];exact h.2⟩)
      .show h9<=1000000;have:=g4.out;omega
      .show a0<=1000000;have:=h2.out;omega
      .show P.length+1<=1000000;have:=a7.out;omega
      .show l8<=1000000;have:=m9.out;omega
      .exact a9.out.kept (T.mono (fun b h=>by have:=h.1;omega)) (fun b h=>⟨⟨by have:=h.1;omega,by rw[a5];exact h.2⟩,VS h.1⟩)
      .exact a1.out.kept (T.mono (fun b h=>by have:=h.1;omega)) (fun b h=>⟨⟨by have:=h.1;omega,by rw[a5];exact h.2⟩,VS h.1⟩)
      .exact g6.out.kept ky (T.mono (fun b h=>by have:=h.1;omega)) (fun b h=>⟨⟨by have:=h.1;omega,by rw[a5];exact h.2⟩,VS (by have:=h.1;omega)⟩)
      .refine Nu Fc (yJ Hx.out.far) ⟨by show 1<=100000*(1+x.p9);omega,by show 100000*(1+x.p9)<=1000000000;omega⟩ ?_ ?_ ?_ f3.out
       .show jx (uP x) fz (fz.length/2)=true
        rw[<- qW a9.out];exact PN m4.out g4.out m6.out
       .show kz (x.prim.tmod a0) vz (vz.length/2)=true
        rw[<- qW a1.out];exact PM e6.out h2.out n2.out g8.out.1 g8.out.2
       .exact Nt (by rw[a7.out];exact h1) (by rw[a7.out];exact h5) (fun q u=>f5 q (List.mem_append_left _ u)) (by omega) (by show 0<=x.stop% (m.length:Int);rw[d8.out];omega) (by show x.stop% (m.length:Int) <_;rw[d8.out,a7.out];omega) (by show kU P (x.stop% (m.length:Int))≠3;rw[d8.out];exact m8.out)
      .rw[E7.out];exact ig (bY _) _ _ e3.out.b
section
variable{P:Program}{H:Type}{enc:TypeId×Value->H}{w:World}{base:Nat}{sp:Nat->Bool}{held:Bool}{t e:TypeId}{cs:List Value}
def Rd(enc:TypeId×Value->H)(P:Program)(w:World)(base:Nat)(b:Nat->Bool)(a:Bool)(t:TypeId)(cs:List Value):Prop:=∃fuel x,DataW.trod enc P w base b a fuel t cs=some x
def xz{k:IntKind}(a:P.underlying t=some (.int k))(h:Rd enc P w base sp held t cs):∃n,cs=[.int k n]/\k.min<=n/\n<=k.max:=by
 obtain⟨fuel,x,h⟩:=h;obtain⟨n,rfl,_,hw⟩:=DataW.trod_int a h;exact⟨n,rfl,by simpa[Lit.wf]using hw⟩
def DY{fs:Array Field}(b:P.underlying t=some (.struct fs))(h:Rd enc P w base sp held t cs):cs.length=P.cellsOf t:=by
 obtain⟨fuel,x,h⟩:=h;obtain⟨_,_,_,_,a,_⟩:=DataW.trod_struct b h;exact a
def iO{fs:Array Field}{ty off n:Nat}(e:P.underlying t=some (.struct fs))(h:Rd enc P w base sp held t cs)(i:Nat)(hf:(fs[i]?).map (fun f=>(f.type,f.offset))=some (ty,off))(d:P.cellsOf ty=n):
 Rd enc P w base sp held ty ((cs.drop off).take n):=by
 obtain⟨fuel,x,h⟩:=h;obtain⟨xs,m,_,_,j,g,c⟩:=DataW.trod_struct e h;obtain⟨f,a,b⟩:=gj.1 hf;cases b;have:=c i f a
 have hi:i<xs.length:=by
  rw[g];exact(cu.1 a).1
 rw[ae hi,d]at this;exact⟨m,_,this⟩
def OU{k:IntKind}{n:Nat}(f:P.underlying t=some (.array n e))(d:P.underlying e=some (.int k))(a:P.cellsOf e=1)(g:P.cellsOf t=n)(h:Rd enc P w base sp held t cs):
 ∀i,i<n-> ∃z,cs[i]? =some (.int k z)/\k.min<=z/\z<=k.max:=by
 obtain⟨fuel,x,h⟩:=h;obtain⟨xs,m,_,_,j,l,b⟩:=DataW.trod_array f h;intro i hi;have h1:=b i hi;rw[a,dn,ae (by omega)]at h1;obtain⟨z,c,h2⟩:=xz d ⟨m,_,h1⟩;refine⟨z,?_,h2⟩
 have:((cs.drop i).take 1)[0]? =some (.int k z):=by rw[c];rfl
 rw[cZ,aq (by omega),cp,bE]at this;exact this
def Mu{a:Addr}{v:Value}(h:w.cell? a=some v):a=⟨a.block,a.off,none⟩/\a.block<w.heap.size:=by
 unfold World.cell? at h;split at h
 .rename_i c _ _ hb
  split at h
  .cases h
  .rename_i hs
   refine⟨?_,TK hb⟩;obtain⟨b,o,s⟩:=a
   cases s with
   |none=>rfl
   |some s=>simp at hs
 .cases h
def Gg{m:Nat}(K:P.underlying t=some (.slice e))(F:P.cellsOf e=m)(h0:0<m)(h:Rd enc P w base sp held t cs):
 ∃a n c,cs=[.slice a n c]/\(a=none->n=0/\c=0)/\n<=c/\
  (0<n-> ∃b off,a=some ⟨b,off,none⟩/\b<w.heap.size/\ ∀i,i<n-> ∃d,d.length=m/\Rd enc P w base sp held e d/\w.rangeAt b (off+i*m) d):=by
 obtain⟨fuel,x,h⟩:=h
 obtain ⟨rfl,_⟩|⟨a,len,cap,p,B,n,_,rfl,_,Q,E,M,A,u,_,_⟩:=DataW.trod_slice K h
 .exact⟨none,0,0,rfl,fun _=>⟨rfl,rfl⟩,aa _,fun h=>absurd h (by omega)⟩
 .refine⟨some a,len,cap,rfl,fun e=>by(exact absurd e (by simp)),E,fun o=>?_⟩
  have k:∀i,i<len-> ∃d,w.cells? base (a.add (i*m)) m=some d/\Rd enc P w base sp held e d:=by
   intro i hi;have h1:=u i hi;rw[ae (by omega),F]at h1;obtain⟨d,h2,h3⟩:=Option.bind_eq_some_iff.1 h1;exact⟨d,h2,n,_,h3⟩
  obtain⟨L,s,_⟩:=k 0 o;obtain⟨_,N,g⟩:=World.cells?_some s;have f:=g 0 h0;rw[ae (by omega)]at f;rw[eB]at f
  have r:(a.add 0).add 0=a:=by simp[Addr.add]
  rw[r]at f;obtain⟨q,hlt⟩:=Mu f;refine⟨a.block,a.off,by rw[<- q],hlt,fun i hi=>?_⟩;obtain⟨d,C,H⟩:=k i hi;obtain⟨_,y,l⟩:=World.cells?_some C;refine⟨d,y,H,fun j v z=>?_⟩
  have D:j<m:=by have:=(TG.1 z).1;omega
  have:=l j D;rw[z]at this;rw[<- this];rw[q,fC,fC]
def DZ{α:Type}{p:Nat->α->Prop}:∀n:Nat,(∀i,i<n-> ∃x,p i x)-> ∃l:List α,l.length=n/\ ∀i x,l[i]? =some x->p i x
 |0,_=>⟨[],rfl,fun i x h=>by simp at h⟩
 |n+1,h=>by
  obtain⟨l,b,c⟩:=DZ n (fun i hi=>h i (by omega));obtain⟨x,d⟩:=h n (by omega);refine⟨l++[x],by simp[b],fun i y a=>?_⟩;by_cases hi:i<n
  .rw[aF (by omega)]at a
   exact c i y a
  .rw[aY (by omega)]at a
   have:i=n:=by
    have:=(TG.1 a).1;simp at this;omega
   subst this;rw[b,eC]at a;cases a;exact d
def I9{α:Type}{R:pB α}{m:Nat}(u:P.underlying t=some (.slice e))(r:P.cellsOf e=m)(h0:0<m)(o:∀d,d.length=m->Rd enc P w base sp held e d-> ∃x,R (fun b=>b<w.heap.size) w x d)(h:Rd enc P w base sp held t cs):
 ∃(p:iJ)(l:List α),cs=[.slice p.a p.n p.c]/\RR R m (fun b=>b<w.heap.size) w p.a p.n p.c l:=by
 obtain⟨a,n,c,rfl,y,k,f⟩:=Gg u r h0 h;by_cases j:0<n
 .obtain⟨b,off,rfl,hlt,g⟩:=f j
  obtain⟨l,q,s⟩:=DZ (p:=fun i x=>∃d,R (fun b=>b<w.heap.size) w x d/\w.rangeAt b (off+i*m) d) n (fun i hi=>by
   obtain⟨d,h1,h2,h3⟩:=g i hi;obtain⟨x,v⟩:=o d h1 h2
   exact⟨x,d,v,h3⟩)
  exact⟨⟨some ⟨b,off,none⟩,n,c⟩,l,rfl,q,k,fun _=>⟨b,off,rfl,hlt,s⟩⟩
 .obtain rfl:n=0:=by omega
  exact⟨⟨a,0,c⟩,[],rfl,RR.nil _ _ _ _ _ _⟩
def AQ(A:P.underlying t=some (.slice e))(s:P.underlying e=some (.int .u8))(v:P.cellsOf e=1)(h:Rd enc P w base sp held t cs):
 ∃(p:iJ)(zs:List Int),cs=[.slice p.a p.n p.c]/\BR (fun b=>b<w.heap.size) w p.a p.n p.c zs:=by
 obtain⟨a,n,c,rfl,C,g,f⟩:=Gg A v (by omega) h;by_cases o:0<n
 .obtain⟨b,off,rfl,hlt,k⟩:=f o
  obtain⟨l,u,y⟩:=DZ (p:=fun i (x:Int)=>w.cell? ⟨b,off+i,none⟩=some (.int .u8 x)/\0<=x/\x<=255) n (fun i hi=>by
   obtain⟨B,h1,h2,h3⟩:=k i hi;obtain⟨z,rfl,q,r⟩:=xz s h2;have:=h3 0 _ rfl;rw[dn,bE]at this;refine⟨z,this,?_,?_⟩
   .simpa[IntKind.min,IntKind.signed,IntKind.bits]using q
   .simpa[IntKind.max,IntKind.signed,IntKind.bits]using r)
  refine⟨⟨some ⟨b,off,none⟩,n,c⟩,l,rfl,u,g,fun j d=>⟨b,off,rfl,hlt,?_⟩⟩;have d:j<n:=d
  have m:l[j]? =some (l.getD j 0):=by rw[ah,ae (by omega)];rfl
  exact y j _ m
 .obtain rfl:n=0:=by omega
  exact⟨⟨a,0,c⟩,[],rfl,rfl,g,fun j d=>absurd (show j<0 from d) (by omega)⟩
end
def Rt(w:World)(e:Ending)(w':World):Prop:=
 ∃y f v s k p,e=.returned (If y f v s k p)/\mj (fun b=>w.heap.size<=b/\b<w'.heap.size) w' y f v s k/\iI y=true/\y.cf=[]/\Below w w w'
def qd(x:rz)(c:Int)(s f v k:iJ):List Value:=[.slice s.a s.n s.c,.int .u8 x.stop,.int .u16 x.far,.int .u8 x.p9,.slice f.a f.n f.c,.slice v.a v.n v.c,.int .u8 x.prim,.int .i16 x.image,.slice k.a k.n k.c,.int .u8 c]
def Fh(x:rz)(c:Int)(s f v k:iJ):Value:=.agg #[Z s.a s.n s.c,.int .u8 x.stop,.int .u16 x.far,.int .u8 x.p9,Z f.a f.n f.c,Z v.a v.n v.c,.int .u8 x.prim,.int .i16 x.image,Z k.a k.n k.c,.int .u8 c]
def Sj(w:World)(g:Nat)(x:rz)(c:Int)(s f v k:iJ):Prop:=w.heap[g]? =some (.cells (qd x c s f v k).toArray 30 (0,0))
def Sj.range{w g x c s f v k}(h:Sj w g x c s f v k):w.rangeAt g 0 (lI x s f v k):=by
 intro j u a;rw[gA h];unfold lI at a;have b:j<9:=(TG.1 a).1;rw[aV,bo]
 match j,b with
 |0,_=>exact a
 |1,_=>exact a
 |2,_=>exact a
 |3,_=>exact a
 |4,_=>exact a
 |5,_=>exact a
 |6,_=>exact a
 |7,_=>exact a
 |8,_=>exact a
def Ru{n:Nat}{c:Int}(h0:0<=c): -1<=c.tmod ((n:Int)+1)-1/\c.tmod ((n:Int)+1)-1<(n:Int):=by
 have h1:=dq c (by omega:(n:Int)+1≠0);have h2:=da c (by omega:0<(n:Int)+1);rw[bu h0];omega
def zW(x c s f v k w)(hx:xU (fun b=>b<w.heap.size) w x s f v k)(hc:og c):
 Calls prog 9 #[Fh x c s f v k] w (Rt w):=by
 have Hx:=O hx;clear hx;obtain⟨e1,e2⟩:=iN w (.cells (qd x c s f v k).toArray 30) (.cells #[ik,oZ,oZ,oZ,oZ,oN,oN,oN,oN,oN] 40);have T:=iH (w:=w) (.cells (qd x c s f v k).toArray 30) (.cells #[ik,oZ,oZ,oZ,oZ,oN,oN,oN,oN,oN] 40);have E1:=O e1;have E2:=O e2;have u:=O T;clear e1 e2 T;unfold Fh;go_enter func9,ntmps9;go_upto_region 1 with fail;refine gI (fun Q=>Sj Q w x c s f v k/\Q.heap[w.heap.size+1]? =some (.cells #[ik,oZ,oZ,oZ,oZ,oN,oN,oN,oN,oN] 40 (0,0))/\Below w w Q) ⟨E1,E2,u⟩ ?_;clear E1 E2 u;rintro w1 ⟨h1,h2,T⟩;have b9:=TK h1;have c9:=TK h2;have H1:=O h1;have H2:=O h2;have u:=O T;clear h1 h2 T
 go_wp2_with(refine sK H1.range rfl (.tmp 6) rfl rfl ?_)
 refine(K6 x s f v k w1 (Hx.kept (gE u) (fun b h=>ab h u.size))).mono ?_;rintro e a ⟨t,yf,yv,ys,i,he,g,N,hl,-,-,d3,q⟩;unfold jG at he;subst he
 have hgl:qF t.l:=by rw[hl];exact Ii x
 have b0:=(q.block _ b9).trans H1;have b1:=(q.block _ c9).trans H2;have d0:=q.size;have Hy:=O g;have j:=O N;have e3:=O d3;have d9:=O hgl;have d7:=O (I u q);have a4:=O b0;have a5:=O b1;clear g N d3 hgl hl q b0 b1 H1 H2;go_upto_region 2 with fail;refine gI (fun Q=>hU Q a 37 t yf yv ys i/\Below a a Q) ⟨TL a _,gY (TH _ _)⟩ ?_;rintro z ⟨h3,r⟩;obtain⟨c0,c1,c2,c3,c4,c5,c6,c7,c8⟩:=h3.cells;have d:=h3.lt;have d1:=r.size;have g9:z.cell? ⟨w.heap.size,9,none⟩=some (.int .u8 c):=(gA ((r.block _ (ab b9 d0)).trans a4) 9).trans rfl
 have f0:w.heap.size<z.heap.size:=by omega
 have b2:=(r.block _ (ab c9 d0)).trans a5;have a1:t.cf.length=i.n:=Hy.at'.cf.1;have f8:i.n<=1000000:=Hy.at'.kn;have H3:=O h3;have a7:=O r;have d5:=O b2;clear h3 r b2 a4 a5;unfold og at hc;have u1:IntKind.i64.wrap c=c:=TM _ (by omega);have M:=Ru (n:=i.n) hc.1;have u2:IntKind.i64.wrap ((i.n:Int)+1)=(i.n:Int)+1:=TM _ (by omega)
 have u3:¬(i.n:Int)+1=0:=by omega
 have u4:IntKind.i64.wrap (c.tmod ((i.n:Int)+1)-1)=c.tmod ((i.n:Int)+1)-1:=TM _ (by omega);refine ic 16 [14] [(15,4,.cells #[ik,oZ,oZ,oZ,oZ,oN,oN,oN,oN,oN] 40)] [(0,true),(2,true),(3,true),(4,true),(5,true),(6,true),(7,true),(8,true),(9,true),(10,true),(1,false),(11,false),(12,true),(13,true),(14,true)] (by kernel_rfl) (by kernel_rfl) ⟨by simp,by simp,by(simp only[ct];exact⟨⟨by omega,_,rfl,rfl,rfl,fun _ _=>rfl⟩,fun _ h=>by cases h⟩)⟩ (fun _ _ _ _ _ h=>h) (fun _ _ o _ _ h=>by cases o<;>exact h) ?_
 iterate 10
  refine gZ (v:=?_) ?_ ?_;rotate_left
  .intro y g
   have y0:=(g.cell (p:=J (a.heap.size)) d).trans c0;have y1:=(g.cell (p:=⟨a.heap.size,1,none⟩) d).trans c1;have y2:=(g.cell (p:=⟨a.heap.size,2,none⟩) d).trans c2;have y3:=(g.cell (p:=⟨a.heap.size,3,none⟩) d).trans c3;have y4:=(g.cell (p:=⟨a.heap.size,4,none⟩) d).trans c4;have y5:=(g.cell (p:=⟨a.heap.size,5,none⟩) d).trans c5;have y6:=(g.cell (p:=⟨a.heap.size,6,none⟩) d).trans c6;have y7:=(g.cell (p:=⟨a.heap.size,7,none⟩) d).trans c7;have y8:=(g.cell (p:=⟨a.heap.size,8,none⟩) d).trans c8;have y9:=(g.cell (p:=⟨w.heap.size,9,none⟩) f0).trans g9;go_simp;with_reducible rfl
  try simp only[V]
 clear c0 c1 c2 c3 c4 c5 c6 c7 c8 g9 u1 u2 u3 u4;generalize c.tmod ((i.n:Int)+1)-1=ci at*;refine iK (fun xa d4 K S=>?_);go_simp;refine(Bk xa).mono ?_;rintro e wa ⟨ga,gc,rfl,b8,W⟩;refine S _ _ W ?_;clear S K;(try simp only[V]);have a2:=gJ (k:=1) d4;have b7:=a2.trans (W.mono a2.size);have d8:=O b8;have a8:=O b7;clear b8 b7 d4 a2 W;refine iK (fun xb P K S=>?_);go_simp;have F:=a8.trans (P.mono a8.size);have D:=a7.trans (F.mono d1);refine(Np t yf yv ys i xb (fun b=>w1.heap.size<=b/\b<a.heap.size) (fun b h=>ab h.2 D.size) ci ga gc (Hy.go D (fun b h=>h.2) (fun b h=>h)) j M.1 (by rw[a1];exact M.2) ((d8.kept wl (gE P|>.mono (fun b h=>h.2)) (fun b h=>ab h.2 P.size))) e3 (KY d9 j (by rw[a1];exact M.2))).mono ?_;rintro e wb ⟨zf,zv,zs,zk,zp,f4,he,hz,f3,f2,X⟩;unfold If at he;subst he;refine S _ _ X ?_;clear S K;(try simp only[V]);have b5:=F.trans (X.mono F.size);have Hz:=O hz;have B:=O b5;have Hs:=O D.size;have f1:=O (KZ j (show ci<(t.cf.length:Int)by rw[a1];exact M.2));clear hz f3 f2 F D b5 P X
 iterate 2
  refine gZ (v:=?_) ?_ ?_;rotate_left
  .intro y g
   skip;go_simp;with_reducible rfl
  try simp only[V]
 iterate 1
  refine iy (v:=?_) ?_ ?_;rotate_left
  .intro y
   go_simp;with_reducible rfl
  try simp only[V]
 refine nV (l:=[_,_]) rfl (fun g4 w4 hC L b6=>?_);(try simp only[V]);have m:=B.trans (L.mono B.size);have e8:z.heap.size<=g4:=hC.1.1;have f7:g4<xb.heap.size\/wb.heap.size<=g4:=hC.2;have b3:=(m.block _ (by show w.heap.size+1<z.heap.size;omega)).trans d5;have a9:=O (Hz.keep (E:=fun b=>(w1.heap.size<=b/\b<a.heap.size)\/(xb.heap.size<=b/\b<wb.heap.size)) ((gE L).mono (fun b h=>by have:=B.size;obtain h|h:=h;have:=h.2;omega;exact h.2)) (fun b h=>h));have f9:=L.size;have a6:=O b3;have A:=O m;clear b3 m L hC Hz
 go_upto_region 3 with(refine rA (TR t ci) zf zv zs zk zp b6 rfl rfl (.tmp 4) (.tmp 22) rfl rfl rfl ?_;intro w5 h5 e5;have H5:=O h5;have C:=O e5;clear h5 e5)
 have a0:gN (fun b=>b≠g4) w4 w5:=by rw[C];exact gK _ _ _ _
 have d2:w5.heap.size=w4.heap.size:=by rw[C,im]
 have b4:=(a0 _ (by omega)).trans a6
 have H:Below z z w5:=by rw[C];exact ig e8 _ _ A
 have e4:=O (a9.keep (E:=fun b=>(w1.heap.size<=b/\b<a.heap.size)\/(xb.heap.size<=b/\b<wb.heap.size)) (a0.mono (fun b h=>by obtain h|h:=h;have:=h.2;omega;have:=h.1;have:=h.2;omega)) (fun b h=>h));have d6:=O b4;have a3:=O H;have e0:=O d2;clear a0 d2 b4 H a9 a6 A b6 C
 go_wp2_with(first
  |(refine ww H5 rfl (.tmp 4) rfl rfl ?_)
  |(refine rA (TR t ci) zf zv zs zk zp d6 rfl rfl (.tmp 2) (.tmp 24) rfl rfl rfl ?_;intro w6 h6 e6;have H6:=O h6;have R:=O e6;clear h6 e6))
 refine ar (PI rfl rfl H6) rfl ?_
 have e9:gN (fun b=>b≠w.heap.size+1) w5 w6:=by rw[R];exact gK _ _ _ _
 have g0:w6.heap.size=w5.heap.size:=by rw[R,im]
 have e7:Below w w w6:=by rw[R];exact ig (bY _) _ _ (I d7 (a7.trans (a3.mono d1)))
 refine⟨TR t ci,zf,zv,zs,zk,zp,rfl,?_,f1,rfl,e7⟩;have g1:=Hs.out;have f5:=e0.out;have f6:z.heap.size<=wb.heap.size:=B.size;exact e4.keep (e9.mono (fun b h=>by obtain h|h:=h;have:=h.1;omega;have:=h.1;omega)) (fun b h=>by obtain h|h:=h<;>exact⟨by have:=h.1;have:=u.size;omega,by have:=h.2;omega⟩)
def Nw(n:Nat->Int):Value:=.agg #[.int .u8 (n 0),.int .u8 (n 1),.int .u8 (n 2),.int .u8 (n 3),.int .u8 (n 4),.int .u8 (n 5),.int .u8 (n 6),.int .u8 (n 7)]
def Ik(w:World)(g:Nat)(n:Nat->Int):Prop:=w.heap[g]? =some (.cells #[.int .u8 (n 0),.int .u8 (n 1),.int .u8 (n 2),.int .u8 (n 3),.int .u8 (n 4),.int .u8 (n 5),.int .u8 (n 6),.int .u8 (n 7)] 31 (0,0))
def Ik.cells{w g}{n:Nat->Int}(h:Ik w g n):w.cell? (J g)=some (.int .u8 (n 0))/\w.cell? ⟨g,1,none⟩=some (.int .u8 (n 1))/\w.cell? ⟨g,2,none⟩=some (.int .u8 (n 2))/\w.cell? ⟨g,3,none⟩=some (.int .u8 (n 3))/\w.cell? ⟨g,4,none⟩=some (.int .u8 (n 4))/\w.cell? ⟨g,5,none⟩=some (.int .u8 (n 5))/\w.cell? ⟨g,6,none⟩=some (.int .u8 (n 6))/\w.cell? ⟨g,7,none⟩=some (.int .u8 (n 7)):=
 ⟨(gA h 0).trans rfl,(gA h 1).trans rfl,(gA h 2).trans rfl,(gA h 3).trans rfl,(gA h 4).trans rfl,(gA h 5).trans rfl,(gA h 6).trans rfl,(gA h 7).trans rfl⟩
def Rv{y}{D:Nat->Prop}{w f v s k}(b:iI y=true)(h:iP D w y f v s k):2<=s.n/\s.n<=16:=by
 have a:jO y 4=true:=an.1 b 4 (by decide);have h5:iW y.stop y.l=true:=a;unfold iW at h5;simp only[am]at h5;have:=h5.1.1.1.1;rw[h.l.1]at this;unfold bt at this;simp at this;omega
def Rw(D:Nat->Prop)(w:World)(y:gR)(f v s k:iJ)(e:Ending)(w':World):Prop:=
 ∃z a d zs c,e=.returned (jG z a d zs c)/\iP (fun b=>D b\/(w.heap.size<=b/\b<w'.heap.size)) w' z a d zs c/\iI z=true/\iP D w' y f v s k/\Ez D w w'
structure wB (D:Nat->Prop) (w:World) (y:gR) (f v s k:iJ) (n:Nat->Int) (g5 g14 c14 kk:Nat) (ca:Option Addr) (cn cc:Nat) (wx:World):Prop where
 l1:hU wx w 37 y f v s k
 arr:Ik wx (w+1) n
 z:wx.heap[w.heap.size+2]? =some (.cells #[ik,oZ,oZ,oZ,oZ,oN,oN,oN,oN] 37 (0,0))
 l5:hU wx g5 37 y f v ⟨some ⟨g14,0,none⟩,s.n,c14⟩ k
 row:A8 jE 22 70 (wX D ca cn cc) kk wx (.slice (J g14) s.n c14) y.l
 h5:w.heap.size+2<g5
 h14:g5<g14
 hlt:g14<wx.heap.size
 dl:∀b,D b->b<w.heap.size
 own:∀g,(Value.slice ca cn cc).ownBlock=some g->D g
 kept:gN (wX D ca cn cc) w wx
 cells:∀g,(Value.slice ca cn cc).ownBlock=some g-> ∀j,j<cn*3->wx.cell? ⟨g,j,none⟩=w.cell? ⟨g,j,none⟩
 quiet:Ez D w wx
section
variable{D:Nat->Prop}{w:World}{y:gR}{f v s k:iJ}{n:Nat->Int}{g5 g14 c14 kk:Nat}{ca:Option Addr}{cn cc:Nat}{wx wy:World}
def wB.go(h:wB D w y f v s k n g5 g14 c14 kk ca cn cc wx)(i:gN (fun b=>b<=g14/\(Value.slice ca cn cc).ownBlock≠some b) wx wy)(p:∀g,(Value.slice ca cn cc).ownBlock=some g-> ∀j,j<cn*3->wy.cell? ⟨g,j,none⟩=wx.cell? ⟨g,j,none⟩)(q:wy.os=wx.os)(t:wy.tape=wx.tape)(u:wy.output=wx.output)(r:wx.heap.size<=wy.heap.size):
 wB D w y f v s k n g5 g14 c14 kk ca cn cc wy:=by
 have h5:=h.h5;have h14:=h.h14;have hlt:=h.hlt
 have o:∀b,w.heap.size<=b->(Value.slice ca cn cc).ownBlock≠some b:=fun b a e=>by
  have:=h.dl b (h.own b e);omega
 have c:∀b,w.heap.size<=b->b<=g14->wy.heap[b]? =wx.heap[b]? :=fun b h1 h2=>i b ⟨h2,o b h1⟩
 have d:gN (wX D ca cn cc) wx wy:=i.mono (fun b a=>⟨by have:=h.dl b a.1;omega,a.2⟩);refine⟨(c _ (aa _) (by omega)).trans h.l1,(c _ (by omega) (by omega)).trans h.arr,(c _ (by omega) (by omega)).trans h.z,(c _ (by omega) (by omega)).trans h.l5,h.row.keep iD ?_ (fun b a=>a),h.h5,h.h14,by omega,h.dl,h.own,h.kept.trans d,fun g l j m=>(p g l j m).trans (h.cells g l j m),?_⟩
 .intro b a
  obtain a|a:=a
  .exact d b a
  .have e:g14=b:=by simpa[Value.ownBlock]using a
   exact c b (by omega) (by omega)
 .exact⟨q.trans h.quiet.os,t.trans h.quiet.tape,u.trans h.quiet.output,af h.quiet.size r,h.quiet.kept.trans (i.mono (fun b a=>⟨by omega,fun e=>a.2 (h.own b e)⟩))⟩
def wB.below(h:wB D w y f v s k n g5 g14 c14 kk ca cn cc wx){B:Nat}(d:g14<B)(a:Below B wx wy):wB D w y f v s k n g5 g14 c14 kk ca cn cc wy:=by
 have h5:=h.h5;have h14:=h.h14;exact h.go ((gE a).mono (fun b h=>by omega)) (fun g c j _=>a.cell (p:=⟨g,j,none⟩) (by have:=h.dl g (h.own g c);show g<B;omega)) a.os a.tape a.output a.size
def wB.set(h:wB D w y f v s k n g5 g14 c14 kk ca cn cc wx){a:Nat}(b:g14<a)(o:Nat)(u:Value):wB D w y f v s k n g5 g14 c14 kk ca cn cc (wx.setCell ⟨a,o,none⟩ u):=
 h.below b ((TH _ _).setCell (p:=⟨a,o,none⟩) (aa _) u)
structure zX (D:Nat->Prop) (w:World) (y:gR) (f v s k:iJ) (n:Nat->Int) (g5 g14 c14 kk:Nat) (ca:Option Addr) (cn cc:Nat) (wx:World):Prop where
 s:wB D w y f v s k n g5 g14 c14 kk ca cn cc wx
 k:gN (fun b=>b<w.heap.size) w wx
def zX.below(h:zX D w y f v s k n g5 g14 c14 kk ca cn cc wx){B:Nat}(c:g14<B)(a:Below B wx wy):zX D w y f v s k n g5 g14 c14 kk ca cn cc wy:=
 ⟨h.s.below c a,h.k.trans ((gE a).mono (fun b h1=>by have:=h.s.h5;have:=h.s.h14;omega))⟩
def zX.set(h:zX D w y f v s k n g5 g14 c14 kk ca cn cc wx){a:Nat}(b:g14<a)(o:Nat)(u:Value):zX D w y f v s k n g5 g14 c14 kk ca cn cc (wx.setCell ⟨a,o,none⟩ u):=
 h.below b ((TH _ _).setCell (p:=⟨a,o,none⟩) (aa _) u)
end
def rC(s zs a n c)(w:World)(k:IR w w 3 a n c zs)(q:n<=1000000)(p:s.i7.size<=9223372036854775807)(b)(g:oA s zs n=b):
 Calls prog 38 #[.agg (⟨s,a,n,c⟩:jt)] w (iZ w (.int .i64 (if b then 0 else 110))):=by
 have h1:=Y.new w s a n c;have f:=(TH w w).alloc (aa _) (.cells (⟨s,a,n,c⟩:jt) 70);have o:=O k;have h:=O h1;have d:=O f;have m:=O g;clear k h1 f g;go_enter func38,ntmps38;go_upto_region 1 with fail;refine gI (fun l=>Y l w s a n c/\Below w w l) ⟨h,d⟩ ?_;clear h d;rintro r ⟨h1,f⟩;have h:=O h1;have d:=O f;clear h1 f;cases b
 all_goals
  go_wp2_with(first
   |(refine gO h rfl (.tmp 1) rfl rfl ?_)
   |((with_reducible refine(lN s zs a n c _ (o.out.go d.out) q p).mono ?_);rintro e t ⟨j,g⟩;rw[m]at j;subst j;have i:=O g;clear g))
  go_ret;exact⟨rfl,I d i⟩
structure yD (D:Nat->Prop) (w:World) (y:gR) (f v s k:iJ) (n:Nat->Int) (g5:Nat) (z:gR) (zs zk:iJ) (wx:World):Prop where
 l1:hU wx w 37 y f v s k
 arr:Ik wx (w+1) n
 z0:wx.heap[w.heap.size+2]? =some (.cells #[ik,oZ,oZ,oZ,oZ,oN,oN,oN,oN] 37 (0,0))
 l5:hU wx g5 37 z f v zs zk
 h5:w.heap.size+2<g5
 dl:∀b,D b->b<w.heap.size
 at5:iP (fun b=>D b\/(g5<b/\b<wx.heap.size)) wx z f v zs zk
 at1:iP D wx y f v s k
 quiet:Ez D w wx
section
variable{D:Nat->Prop}{w:World}{y:gR}{f v s k:iJ}{n:Nat->Int}{g5:Nat}{z:gR}{zs zk:iJ}{wx wy:World}
def yD.below(h:yD D w y f v s k n g5 z zs zk wx)(a:Below wx wx wy):yD D w y f v s k n g5 z zs zk wy:=by
 have h5:=h.h5;have e:=h.l5.lt
 have c:∀b,D b->b<wx.heap.size:=fun b a=>by have:=h.dl b a;omega
 have d:=a.size;exact⟨(a.block _ (by omega)).trans h.l1,(a.block _ (by omega)).trans h.arr,(a.block _ (by omega)).trans h.z0,(a.block _ (by omega)).trans h.l5,h5,h.dl,h.at5.kept ((gE a).mono (fun b h=>by obtain h|h:=h;exact c b h;exact h.2)) (fun b h=>by obtain h|h:=h;exact VR h;exact VS ⟨h.1,by omega⟩),h.at1.kept ((gE a).mono c) (fun b h=>h),⟨a.os.trans h.quiet.os,a.tape.trans h.quiet.tape,a.output.trans h.quiet.output,af h.quiet.size d,h.quiet.kept.trans ((gE a).mono (fun b h=>by omega))⟩⟩
def yD.store(h:yD D w y f v s k n g5 z zs zk wx){g:gR}{d c:iJ}(m:iP (fun b=>D b\/(g5<b/\b<wx.heap.size)) wx g f v d c)(i:hU wy g5 37 g f v d c)(j:wy=wx.setCells g5 0 (iw g f v d c)):yD D w y f v s k n g5 g d c wy:=by
 have h5:=h.h5
 have e:gN (fun b=>b≠g5) wx wy:=by rw[j];exact gK _ _ _ _
 have o:wy.heap.size=wx.heap.size:=by rw[j,im]
 have a:Below g5 wx wy:=by rw[j];exact ig (aa _) _ _ (TH _ _)
 have l:∀b,D b->b≠g5:=fun b i=>by have:=h.dl b i;omega
 exact⟨(e _ (by omega)).trans h.l1,(e _ (by omega)).trans h.arr,(e _ (by omega)).trans h.z0,i,h5,h.dl,m.kept (e.mono (fun b h=>by obtain h|h:=h;exact l b h;omega)) (fun b h=>by rw[o];exact h),h.at1.kept (e.mono l) (fun b h=>h),⟨a.os.trans h.quiet.os,a.tape.trans h.quiet.tape,a.output.trans h.quiet.output,af h.quiet.size a.size,h.quiet.kept.trans (e.mono (fun b h=>by omega))⟩⟩
def yC.cn8{i:Nat}{d:Option Addr}{cn cc:Nat}{j:List jT}{q:jT}{b0 off:Nat}(a:yC D w y f v s k j i q d cn cc b0 off)(h:iI y=true):cn<=8:=by
 have b:iW y.stop y.l=true:=an.1 h 4 (by decide);unfold iW at b;simp only[am]at b;have h3:=b.1.1.2;unfold uM at h3;rw[di,du]at h3
 have g:q.y∈y.l:=by rw[<- a.eq];exact cP.2 ⟨q,aL a.at',rfl⟩
 have h5:=h3 q.y g
 have c:oA q.y.s q.y.zs (q.y.zs.length/3)=true:=by
  have:tr q.y=true:=by simpa using h5
  exact this
 unfold oA at c;simp only[am]at c;have e:pC q.y.s q.y.zs (q.y.zs.length/3) 6=true:=an.1 c.1 6 (by decide)
 have m:q.y.zs.length/3<=8:=by simpa[pC]using e
 have:=a.film.len;omega
def wB.fin{a x d:Nat}{t:Option Addr}{cn cc:Nat}{P:List jT}{q:jT}{b0 off:Nat}(h:wB D w y f v s k n g5 a x d t cn cc wx)(e:yC D w y f v s k P d q t cn cc b0 off)(h0:iP D w y f v s k){E:Nat}{s2:gW}{i:Option Addr}{fn fc:Nat}{F:List Int}
 (C:jN (fun b=>(Value.slice t cn cc).ownBlock=some b\/(E<b/\b<wx.heap.size)) wx i fn fc F)(Q:a<E)(H:fn<=1000000)(hgl:s2.i7.size<=9223372036854775807):
 yD D w y f v s k n g5 {y with l:=y.l.set d ⟨s2,F⟩} ⟨some ⟨a,0,none⟩,s.n,x⟩ k (wx.setCells a (d*22) (gX s2 i fn fc)):=by
 have h5:=h.h5;have h14:=h.h14;have hlt:=h.hlt;have m:gN (fun b=>b≠a) wx (wx.setCells a (d*22) (gX s2 i fn fc)):=gK _ _ _ _;have M:(wx.setCells a (d*22) (gX s2 i fn fc)).heap.size=wx.heap.size:=im _ _ _ _
 have A:∀b,D b->b≠a:=fun b c=>by have:=h.dl b c;omega
 have o:Below a wx (wx.setCells a (d*22) (gX s2 i fn fc)):=ig (aa _) _ _ (TH _ _);have r:gN (wX D t cn cc) w (wx.setCells a (d*22) (gX s2 i fn fc)):=h.kept.trans (m.mono (fun b c=>A b c.1))
 have L:d<y.l.length:=by rw[<- e.eq,mD];exact(TG.1 e.at').1
 have B:Ey jE 22 70 (fun b=>wX D t cn cc b\/(Value.slice t cn cc).ownBlock=some b\/(E<b/\b<wx.heap.size)) (wx.setCells a (d*22) (gX s2 i fn fc)) (.slice (J a) s.n x) (y.l.set d ⟨s2,F⟩):=by
  refine A8.set iD (h.row.keep iD (gN.refl _ _) (fun b c=>VR c)) (fun u=>?_) L ⟨i,fn,fc,rfl,C.irp.kept (gN.refl _ _) (fun b c=>VS c),H,C.none,hgl⟩
  obtain u|u|u:=u
  .exact A a u.1 rfl
  .exact A a (h.own a u) rfl
  .omega
 refine⟨(m _ (by omega)).trans h.l1,(m _ (by omega)).trans h.arr,(m _ (by omega)).trans h.z,(m _ (by omega)).trans h.l5,h5,h.dl,⟨e.fs.kept r (fun b c=>VR c.1),e.ws.kept r (fun b c=>VR c.1),?_,e.cf.kept ky r (fun b c=>VR c.1),h0.fn,h0.wn,h0.sn,h0.kn,h0.fc,h0.wc,h0.nm⟩,?_,⟨o.os.trans h.quiet.os,o.tape.trans h.quiet.tape,o.output.trans h.quiet.output,af h.quiet.size o.size,h.quiet.kept.trans (m.mono (fun b h=>by omega))⟩⟩
 .refine B.rr iD (fun b c=>?_) (VS ⟨h14,by rw[M];exact hlt⟩)
  obtain c|c|c:=c
  .exact VR c.1
  .exact VR (h.own b c)
  .exact VS ⟨by omega,by rw[M];exact c.2⟩
 .exact e.still h0 r (fun g K j N=>(m.cell (p:=⟨g,j,none⟩) (A g (h.own g K))).trans (h.cells g K j N))
end
def vd:ByteArray:=⟨#[110,101,97,114]⟩
def ve:ByteArray:=⟨#[102,97,114,45,50]⟩
def Nx{w g h}{S:Nat->Prop}{u:Int}(d:w.heap[h]? =some (.cells #[vd,Z (J g) 1 1,ve,oN] 75 (0,0)))(f:w.heap[g]? =some (.cells #[oZ,.int .i64 9,u] 72 (0,0)))(k:S g)(l:S h):
 RR oB 2 S w (J h) 2 2 [⟨vd,[0,9,u]⟩,⟨ve,[]⟩]:=by
 refine⟨rfl,aa _,fun _=>⟨h,0,rfl,l,fun i x b=>?_⟩⟩
 match i,b with
 |0,b=>
  obtain rfl:(⟨vd,[0,9,u]⟩:jd)=x:=by simpa using b
  refine⟨_,⟨some ⟨g,0,none⟩,1,1,rfl,⟨rfl,aa _,fun _=>⟨g,0,rfl,k,fun j c=>?_⟩⟩,by omega,fun e=>by(cases e),(by show vd.size<=_;decide)⟩,fun j v a=>?_⟩
  .rw[aV,gA f]
   match j,c with
   |0,_=>rfl
   |1,_=>rfl
   |2,_=>rfl
  .have c:j<2:=(TG.1 a).1
   rw[show 0+0*2+j=j by omega,gA d]
   match j,c with
   |0,_=>exact a
   |1,_=>exact a
 |1,b=>
  obtain rfl:(⟨ve,[]⟩:jd)=x:=by simpa using b
  refine⟨_,⟨none,0,0,rfl,IRp.nil _ _ _ _ _,by omega,fun _=>rfl,(by show ve.size<=_;decide)⟩,fun j v a=>?_⟩;have c:j<2:=(TG.1 a).1;rw[show 0+1*2+j=2+j by omega,gA d]
  match j,c with
  |0,_=>exact a
  |1,_=>exact a
 |i+2,b=>simp at b
section
variable{P:Program}{H:Type}{enc:TypeId×Value->H}{w:World}{base:Nat}{sp:Nat->Bool}{held:Bool}{t e:TypeId}{c:Value}{cs:List Value}
def vf(a:P.underlying t=some (.int .u8))(h:Rd enc P w base sp held t [c]):∃z,c=.int .u8 z/\og z:=by
 obtain⟨z,e,h0,h1⟩:=xz a h;refine⟨z,by simpa using e,?_⟩;simp[IntKind.min,IntKind.max,IntKind.signed,IntKind.bits]at h0 h1;unfold og;omega
def SQ(a:P.underlying t=some (.int .i8))(h:Rd enc P w base sp held t [c]):∃z,c=.int .i8 z/\tU z:=by
 obtain⟨z,e,h0,h1⟩:=xz a h;refine⟨z,by simpa using e,?_⟩;simp[IntKind.min,IntKind.max,IntKind.signed,IntKind.bits]at h0 h1;unfold tU;omega
def qQ{n:Nat}(d:P.underlying t=some (.array n e))(c:P.underlying e=some (.int .i8))(a:P.cellsOf e=1)(b:P.cellsOf t=n)(h:Rd enc P w base sp held t cs)(i:Nat)(hi:i<n):∃z,cs[i]? =some (.int .i8 z)/\tU z:=by
 obtain⟨z,e,h0,h1⟩:=OU d c a b h i hi;refine⟨z,e,?_⟩;simp[IntKind.min,IntKind.max,IntKind.signed,IntKind.bits]at h0 h1;unfold tU;omega
def Ja(a:P.underlying t=some (.int .i16))(h:Rd enc P w base sp held t [c]):∃z,c=.int .i16 z/\qD z:=by
 obtain⟨z,e,h0,h1⟩:=xz a h;refine⟨z,by simpa using e,?_⟩;simp[IntKind.min,IntKind.max,IntKind.signed,IntKind.bits]at h0 h1;unfold qD;omega
def yU{n:Nat}(d:P.underlying t=some (.array n e))(c:P.underlying e=some (.int .i16))(a:P.cellsOf e=1)(b:P.cellsOf t=n)(h:Rd enc P w base sp held t cs)(i:Nat)(hi:i<n):∃z,cs[i]? =some (.int .i16 z)/\qD z:=by
 obtain⟨z,e,h0,h1⟩:=OU d c a b h i hi;refine⟨z,e,?_⟩;simp[IntKind.min,IntKind.max,IntKind.signed,IntKind.bits]at h0 h1;unfold qD;omega
def RH(a:P.underlying t=some (.int .u16))(h:Rd enc P w base sp held t [c]):∃z,c=.int .u16 z/\Ci z:=by
 obtain⟨z,e,h0,h1⟩:=xz a h;refine⟨z,by simpa using e,?_⟩;simp[IntKind.min,IntKind.max,IntKind.signed,IntKind.bits]at h0 h1;unfold Ci;omega
end
variable{H:Type}{enc:TypeId×Value->H}{w:World}{base:Nat}{sp:Nat->Bool}{held:Bool}{cs:List Value}
def RI(h:Rd enc prog w base sp held 153 cs):∃x,Rg (fun b=>b<w.heap.size) w x cs:=by
 have hl:cs.length=22:=(DY underlying153 h).trans (by kernel_rfl)
 match cs,hl with
 |[c0,c1,c2,c3,c4,c5,c6,c7,c8,c9,c10,c11,c12,c13,c14,c15,c16,c17,c18,c19,c20,c21],_=>
  obtain⟨kind,rfl,m⟩:=vf underlying5 (iO underlying153 h 0 (ty:=5) (off:=0) (n:=1) rfl (by kernel_rfl));obtain⟨v0,E,a1⟩:=yU underlying147 underlying25 (by kernel_rfl) (by kernel_rfl) (iO underlying153 h 1 (ty:=147) (off:=1) (n:=2) rfl (by kernel_rfl)) 0 (by omega)
  obtain rfl:c1=.int .i16 v0:=by simpa using E
  obtain⟨v1,F,a2⟩:=yU underlying147 underlying25 (by kernel_rfl) (by kernel_rfl) (iO underlying153 h 1 (ty:=147) (off:=1) (n:=2) rfl (by kernel_rfl)) 1 (by omega)
  obtain rfl:c2=.int .i16 v1:=by simpa using F
  obtain⟨k0,A,T⟩:=yU underlying147 underlying25 (by kernel_rfl) (by kernel_rfl) (iO underlying153 h 2 (ty:=147) (off:=3) (n:=2) rfl (by kernel_rfl)) 0 (by omega)
  obtain rfl:c3=.int .i16 k0:=by simpa using A
  obtain⟨k1,B,W⟩:=yU underlying147 underlying25 (by kernel_rfl) (by kernel_rfl) (iO underlying153 h 2 (ty:=147) (off:=3) (n:=2) rfl (by kernel_rfl)) 1 (by omega)
  obtain rfl:c4=.int .i16 k1:=by simpa using B
  obtain⟨h0,u,P⟩:=qQ underlying149 underlying148 (by kernel_rfl) (by kernel_rfl) (iO underlying153 h 3 (ty:=149) (off:=5) (n:=4) rfl (by kernel_rfl)) 0 (by omega)
  obtain rfl:c5=.int .i8 h0:=by simpa using u
  obtain⟨h1,v,Q⟩:=qQ underlying149 underlying148 (by kernel_rfl) (by kernel_rfl) (iO underlying153 h 3 (ty:=149) (off:=5) (n:=4) rfl (by kernel_rfl)) 1 (by omega)
  obtain rfl:c6=.int .i8 h1:=by simpa using v
  obtain⟨h2,y,R⟩:=qQ underlying149 underlying148 (by kernel_rfl) (by kernel_rfl) (iO underlying153 h 3 (ty:=149) (off:=5) (n:=4) rfl (by kernel_rfl)) 2 (by omega)
  obtain rfl:c7=.int .i8 h2:=by simpa using y
  obtain⟨h3,z,S⟩:=qQ underlying149 underlying148 (by kernel_rfl) (by kernel_rfl) (iO underlying153 h 3 (ty:=149) (off:=5) (n:=4) rfl (by kernel_rfl)) 3 (by omega)
  obtain rfl:c8=.int .i8 h3:=by simpa using z
  obtain⟨p0,C,X⟩:=qQ underlying150 underlying148 (by kernel_rfl) (by kernel_rfl) (iO underlying153 h 4 (ty:=150) (off:=9) (n:=2) rfl (by kernel_rfl)) 0 (by omega)
  obtain rfl:c9=.int .i8 p0:=by simpa using C
  obtain⟨p1,D,a0⟩:=qQ underlying150 underlying148 (by kernel_rfl) (by kernel_rfl) (iO underlying153 h 4 (ty:=150) (off:=9) (n:=2) rfl (by kernel_rfl)) 1 (by omega)
  obtain rfl:c10=.int .i8 p1:=by simpa using D
  obtain⟨order,rfl,j⟩:=SQ underlying148 (iO underlying153 h 5 (ty:=148) (off:=11) (n:=1) rfl (by kernel_rfl));obtain⟨t8,rfl,k⟩:=Ja underlying25 (iO underlying153 h 6 (ty:=25) (off:=12) (n:=1) rfl (by kernel_rfl));obtain⟨i7,rfl,i⟩:=vf underlying5 (iO underlying153 h 7 (ty:=5) (off:=13) (n:=1) rfl (by kernel_rfl));obtain⟨r9,rfl,o⟩:=vf underlying5 (iO underlying153 h 8 (ty:=5) (off:=14) (n:=1) rfl (by kernel_rfl));obtain⟨p8,rfl,l⟩:=vf underlying5 (iO underlying153 h 9 (ty:=5) (off:=15) (n:=1) rfl (by kernel_rfl));obtain⟨b0,p,H⟩:=qQ underlying151 underlying148 (by kernel_rfl) (by kernel_rfl) (iO underlying153 h 10 (ty:=151) (off:=16) (n:=5) rfl (by kernel_rfl)) 0 (by omega)
  obtain rfl:c16=.int .i8 b0:=by simpa using p
  obtain⟨b1,q,K⟩:=qQ underlying151 underlying148 (by kernel_rfl) (by kernel_rfl) (iO underlying153 h 10 (ty:=151) (off:=16) (n:=5) rfl (by kernel_rfl)) 1 (by omega)
  obtain rfl:c17=.int .i8 b1:=by simpa using q
  obtain⟨b2,r,L⟩:=qQ underlying151 underlying148 (by kernel_rfl) (by kernel_rfl) (iO underlying153 h 10 (ty:=151) (off:=16) (n:=5) rfl (by kernel_rfl)) 2 (by omega)
  obtain rfl:c18=.int .i8 b2:=by simpa using r
  obtain⟨b3,s,M⟩:=qQ underlying151 underlying148 (by kernel_rfl) (by kernel_rfl) (iO underlying153 h 10 (ty:=151) (off:=16) (n:=5) rfl (by kernel_rfl)) 3 (by omega)
  obtain rfl:c19=.int .i8 b3:=by simpa using s
  obtain⟨b4,t,N⟩:=qQ underlying151 underlying148 (by kernel_rfl) (by kernel_rfl) (iO underlying153 h 10 (ty:=151) (off:=16) (n:=5) rfl (by kernel_rfl)) 4 (by omega)
  obtain rfl:c20=.int .i8 b4:=by simpa using t
  obtain⟨d,f,e,g⟩:=AQ underlying24 underlying5 (by kernel_rfl) (iO underlying153 h 11 (ty:=24) (off:=21) (n:=1) rfl (by kernel_rfl))
  obtain rfl:c21=.slice d.a d.n d.c:=by simpa using e
  exact⟨⟨kind,v0,v1,k0,k1,h0,h1,h2,h3,p0,p1,order,t8,i7,r9,p8,b0,b1,b2,b3,b4,f⟩,_,_,_,rfl,g,⟨m,a1,a2,T,W,P,Q,R,S,X,a0,j,k,i,o,l,H,K,L,M,N⟩⟩
def RJ(h:Rd enc prog w base sp held 206 cs):∃x,Rp (fun b=>b<w.heap.size) w x cs:=by
 have a:cs.length=3:=(DY underlying206 h).trans (by kernel_rfl)
 match cs,a with
 |[c0,c1,c2],_=>
  obtain⟨s,rfl,d⟩:=vf underlying5 (iO underlying206 h 0 (ty:=5) (off:=0) (n:=1) rfl (by kernel_rfl));obtain⟨q,rfl,c⟩:=vf underlying5 (iO underlying206 h 1 (ty:=5) (off:=1) (n:=1) rfl (by kernel_rfl));obtain⟨v,rfl,e⟩:=Ja underlying25 (iO underlying206 h 2 (ty:=25) (off:=2) (n:=1) rfl (by kernel_rfl));exact⟨⟨s,q,v⟩,rfl,d,c,e⟩
def Qc(h:Rd enc prog w base sp held 204 cs):∃x,JA (fun b=>b<w.heap.size) w x cs:=by
 obtain⟨p,l,rfl,a⟩:=I9 (m:=3) underlying204 (by kernel_rfl) (by omega) (fun c d h2=>RJ h2) h;exact⟨l,_,_,_,rfl,a⟩
def RK(h:Rd enc prog w base sp held 28 cs):∃x s f v k,cs=lI x s f v k/\xU (fun b=>b<w.heap.size) w x s f v k:=by
 have B:cs.length=9:=(DY underlying28 h).trans (by kernel_rfl)
 match cs,B with
 |[c0,c1,c2,c3,c4,c5,c6,c7,c8],_=>
  obtain⟨o,E,z,L⟩:=I9 (m:=22) underlying22 (by kernel_rfl) (by omega) (fun r t h2=>RI h2) (iO underlying28 h 0 (ty:=22) (off:=0) (n:=1) rfl (by kernel_rfl))
  obtain rfl:c0=.slice o.a o.n o.c:=by simpa using z
  obtain⟨stop,rfl,i⟩:=vf underlying5 (iO underlying28 h 1 (ty:=5) (off:=1) (n:=1) rfl (by kernel_rfl));obtain⟨far,rfl,q⟩:=RH underlying23 (iO underlying28 h 2 (ty:=23) (off:=2) (n:=1) rfl (by kernel_rfl));obtain⟨p9,rfl,e⟩:=vf underlying5 (iO underlying28 h 3 (ty:=5) (off:=3) (n:=1) rfl (by kernel_rfl));obtain⟨j,C,u,H⟩:=AQ underlying24 underlying5 (by kernel_rfl) (iO underlying28 h 4 (ty:=24) (off:=4) (n:=1) rfl (by kernel_rfl))
  obtain rfl:c4=.slice j.a j.n j.c:=by simpa using u
  obtain⟨p,F,A,M⟩:=AQ underlying24 underlying5 (by kernel_rfl) (iO underlying28 h 5 (ty:=24) (off:=5) (n:=1) rfl (by kernel_rfl))
  obtain rfl:c5=.slice p.a p.n p.c:=by simpa using A
  obtain⟨prim,rfl,g⟩:=vf underlying5 (iO underlying28 h 6 (ty:=5) (off:=6) (n:=1) rfl (by kernel_rfl));obtain⟨image,rfl,d⟩:=Ja underlying25 (iO underlying28 h 7 (ty:=25) (off:=7) (n:=1) rfl (by kernel_rfl));obtain⟨l,D,y,K⟩:=I9 (m:=1) underlying26 (by kernel_rfl) (by omega) (fun r t h2=>Qc h2) (iO underlying28 h 8 (ty:=26) (off:=8) (n:=1) rfl (by kernel_rfl))
  obtain rfl:c8=.slice l.a l.n l.c:=by simpa using y
  exact⟨⟨E,stop,far,p9,C,F,prim,image,D⟩,o,j,p,l,rfl,⟨L,H,M,K,i,q,e,g,d⟩⟩
def SR(h:Rd enc prog w base sp held 30 cs):∃x c s f v k,cs=qd x c s f v k/\xU (fun b=>b<w.heap.size) w x s f v k/\og c:=by
 have a:cs.length=10:=(DY underlying30 h).trans (by kernel_rfl)
 match cs,a with
 |[c0,c1,c2,c3,c4,c5,c6,c7,c8,c9],_=>
  have g:=RK (cs:=[c0,c1,c2,c3,c4,c5,c6,c7,c8]) (iO underlying30 h 0 (ty:=28) (off:=0) (n:=9) rfl (by kernel_rfl));obtain⟨c,rfl,d⟩:=vf underlying5 (iO underlying30 h 1 (ty:=5) (off:=9) (n:=1) rfl (by kernel_rfl));obtain⟨x,s,f,v,k,el,e⟩:=g;refine⟨x,c,s,f,v,k,?_,e,d⟩
  show[c0,c1,c2,c3,c4,c5,c6,c7,c8]++[.int .u8 c]=_
  rw[el];rfl
def Qd:∀zs:List Int,zs.length=8->(∀z∈zs,IntKind.u8.has z)-> ∃n:Nat->Int,Value.agg (zs.map (Value.int .u8)).toArray=Nw n/\ ∀i,og (n i)
 |[z0,z1,z2,z3,z4,z5,z6,z7],_,h=>by
  have a:∀z∈ [z0,z1,z2,z3,z4,z5,z6,z7],og z:=fun z b=>by
   have:=h z b;simp[IntKind.has,IntKind.min,IntKind.max,IntKind.signed,IntKind.bits]at this;unfold og;omega
  refine⟨fun i=>match i with|0=>z0|1=>z1|2=>z2|3=>z3|4=>z4|5=>z5|6=>z6|7=>z7|_=>0,rfl,fun i=>?_⟩
  match i with
  |0=>exact a _ (by simp)
  |1=>exact a _ (by simp)
  |2=>exact a _ (by simp)
  |3=>exact a _ (by simp)
  |4=>exact a _ (by simp)
  |5=>exact a _ (by simp)
  |6=>exact a _ (by simp)
  |7=>exact a _ (by simp)
  |_+8=>exact(⟨by omega,by omega⟩:og 0)
