import Derived.Test.YtlnbjinneegciabGreatDoorTAS
import Derived.Test.YtlnbjinneegciabGreatDoorTAU
import Derived.Test.YtlnbjinneegciabGreatDoorTAT
import Derived.Deep.Slices
namespace Go.Proofs.YtlnbjinneegciabGreatDoor
set_option linter.all false
set_option maxRecDepth 100000
set_option maxHeartbeats 12800000
open Go.Proofs.Tryz Go.RowKit Go.ChangeShapes Go.WideShapes Go.ChangeAt
def zO(x:gR)(a:Int):List gM:=if a<0 then x.l else match x.cf[a.toNat]? with
 |some c=>(tu x.l c.zs (c.zs.length/3)).getD x.l
 |none=>x.l
def TR(x:gR)(a:Int):gR:={x with l:=zO x a,cf:=[]}
def Ic(D:Nat->Prop)(w:World)(x:gR)(a:Int)(e:Ending)(w':World):Prop:=
 ∃f v s k,e=.returned (.tuple #[jG (TR x a) f v s k,oZ])/\mj (fun b=>D b\/(w.heap.size<=b/\b<w'.heap.size)) w' (TR x a) f v s k/\Below w w w'
def Jy{x:gR}{a:Int}(h:a<0):TR x a={x with cf:=[]}:=by unfold TR zO;rw[aq h]
def Jz{x:gR}{i:Nat}{c:jd}(d:iI x=true)(h:x.cf[i]? =some c):∃l',tu x.l c.zs (c.zs.length/3)=some l'/\c.zs.length/3<=12:=by
 have h5:jO x 5=true:=an.1 d 5 (by decide);have b:jo x.l x.cf=true:=h5;unfold jo at b;simp only[am]at b;have a:lr x.l c=true:=an.1 b.1.1 c (aL h);unfold lr at a;split at a
 .cases a
 .rename_i l' hl'
  exact⟨l',hl',by simpa using a⟩
def KQ(x:gR)(f v s k:iJ)(w:World)(D:Nat->Prop)(P:∀b,D b->b<w.heap.size)(c:Int)(r:mj D w x f v s k)(R:iI x=true)(h1: -1<=c)(h2:c<0):
 Calls prog 33 #[jG x f v s k,c] w (Ic D w x c):=by
 have a0:x.cf.length=k.n:=r.at'.cf.1;have W:=O r;have T:=O R;have A:=O (r.at'.kept (gN.refl _ _) P:iP (fun b=>b<w.heap.size) w x f v s k);clear r R;obtain⟨H:HQ _,E2:HQ _⟩:=iN w (.cells (iw x f v s k).toArray 37) (.cells #[ik,oZ,oZ,oZ,oZ,oN,oN,oN,oN] 37);have i:=O (iH (w:=w) (.cells (iw x f v s k).toArray 37) (.cells #[ik,oZ,oZ,oZ,oZ,oN,oN,oN,oN] 37));unfold jG;go_enter func33,ntmps33;go_upto_region 1 with fail;refine gI (fun d=>kr d w 37 x f v s k/\d.heap[w.heap.size+1]? =some (.cells #[ik,oZ,oZ,oZ,oZ,oN,oN,oN,oN] 37 (0,0))/\Below w w d) ⟨H,E2,i⟩ ?_;clear H E2 i;rintro w1 ⟨B,l,hb⟩;have o:=TK l
 have Q:w.heap.size<w1.heap.size:=by omega
 have F:=O B;have L:=O l;have i:=O hb;clear B l hb
 have E:bt c (-1) ((k.n:Int)-1)=true:=by unfold bt;simp;omega
 have M:=O E;clear E;have a1:k.n<=1000000:=A.kn
 go_upto_if 19 with(first
  |(refine it F rfl (.tmp 2) rfl rfl ?_)
  |((with_reducible refine(sw x f v s k _ (A.out.go i.out)).mono ?_);rintro e w2 ⟨m,hb⟩;rw[T]at m;subst m;have y:=O (I i hb);have j:=O (F.go hb);have t:=O ((hb.block _ o).trans L);obtain⟨_,_,_,_,_,_,_,X,N⟩:=j.cells;have g:=eb o hb.size;clear hb)
  |((with_reducible refine(ix c (-1) _ _).mono ?_);rintro e w3 ⟨m,hb⟩;rw[M]at m;subst m;have z:=O (I y hb);have a:=O (j.go hb);have u:=O ((hb.block _ g).trans t);clear hb))
 have a3:¬(0<=c):=by omega
 have N:=a.cells.2.2.2.2.2.2.2.2;have f8:=a.free 8;have q:=a.lt;go_upto_region 8 with fail;refine gI (fun d=>kr d w 37 {x with cf:=[]} f v s ⟨none,0,0⟩/\d.heap[w.heap.size+1]? =some (.cells #[ik,oZ,oZ,oZ,oZ,oN,oN,oN,oN] 37 (0,0))/\Below w w d) ⟨gG a 8 _,gF u ⟨w.heap.size,8,none⟩ (by simp) _,z.setCell (p:=⟨w.heap.size,8,none⟩) (ag _) _⟩ ?_;clear F L i y j t z a u X N f8 g Q o q;rintro w4 ⟨K:HQ _,H24:HQ _,Hb4:HQ _⟩;have a2:=TK H24
 go_wp2_with(first
  |(refine it K rfl (.tmp 2) rfl rfl ?_)
  |(refine ja {x with cf:=[]} f v s ⟨none,0,0⟩ H24 rfl rfl (.tmp 4) (.tmp 34) rfl rfl rfl ?_;intro w6 (S:HQ _) (He6:HQ _);clear H24))
 refine ar (vW rfl rfl rfl S) rfl ?_
 have C:Below w w w6:=by rw[He6];exact ig (bY _) _ _ Hb4
 refine⟨f,v,s,⟨none,0,0⟩,by rw[Jy h2];rfl,?_,C⟩;rw[Jy h2];exact(W.go C P (fun b h=>VR h)).bare
def KR(x:gR)(f v s k:iJ)(w:World)(D:Nat->Prop)(hD:∀b,D b->b<w.heap.size)(X:Int)(hx:mj D w x f v s k)(hv:iI x=true)(h1:0<=X)(h2:X<(x.cf.length:Int)):
 Calls prog 33 #[jG x f v s k,X] w (Ic D w x X):=by
 have f3:x.cf.length=k.n:=hx.at'.cf.1;obtain⟨i,rfl⟩:∃i:Nat,X=(i:Int):=⟨X.toNat,by omega⟩
 have d6:i<k.n:=by omega
 obtain⟨m,A,y,g9,ek,d7,a7,⟨ya,yn,yc,rfl,a8,g3,g8,g2⟩,e4⟩:=hx.at'.cf.at d6;have f1:=Jz hv a7;obtain⟨l',u,a9⟩:=f1
 have N:TR x (i:Int)={x with l:=l',cf:=[]}:=by
  unfold TR zO;rw[aj (by omega),aI,a7];simp only[u,Option.getD_some]
 have S:yn=y.zs.length/3:=mU a8;rw[<- S]at u;have c0:=O u;have H:=O N;have f0:=O (a8.ir hD);have K1:=O (e4 1 _ rfl);have c2:=O (show l'.length=s.n from(zx u).trans hx.at'.l.1);clear u N a8 e4 a7 g2 S a9;obtain⟨ka,kn,kc⟩:=k;obtain⟨sa,sn,sc⟩:=s;simp only at ek f3 d6 c2;subst ek;have Hx:=O hx;have Hv:=O hv;have L:=O (hx.at'.kept (gN.refl _ _) hD:iP (fun b=>b<w.heap.size) w x f v ⟨sa,sn,sc⟩ ⟨some ⟨m,A,none⟩,kn,kc⟩);clear hx hv;obtain⟨e1,e2⟩:=iN w (.cells (iw x f v ⟨sa,sn,sc⟩ ⟨some ⟨m,A,none⟩,kn,kc⟩).toArray 37) (.cells #[ik,oZ,oZ,oZ,oZ,oN,oN,oN,oN] 37);have W:=O (iH (w:=w) (.cells (iw x f v ⟨sa,sn,sc⟩ ⟨some ⟨m,A,none⟩,kn,kc⟩).toArray 37) (.cells #[ik,oZ,oZ,oZ,oZ,oN,oN,oN,oN] 37));have E1:=O e1;have E2:=O e2;clear e1 e2;unfold jG;go_enter func33,ntmps33;go_upto_region 1 with fail;refine gI (fun c=>kr c w 37 x f v ⟨sa,sn,sc⟩ ⟨some ⟨m,A,none⟩,kn,kc⟩/\c.heap[w.heap.size+1]? =some (.cells #[ik,oZ,oZ,oZ,oZ,oN,oN,oN,oN] 37 (0,0))/\Below w w c) ⟨E1,E2,W⟩ ?_;clear E1 E2 W;rintro w1 ⟨c9,a1,hb⟩;have a5:=TK a1
 have f4:w.heap.size<w1.heap.size:=by omega
 have H1:=O c9;have H2:=O a1;have W:=O hb;clear c9 a1 hb
 have d5:bt (i:Int) (-1) ((kn:Int)-1)=true:=by unfold bt;simp;omega
 have e7:=O d5;clear d5;have g5:kn<=1000000:=L.kn
 go_upto_if 19 with(first
  |(refine it H1 rfl (.tmp 2) rfl rfl ?_)
  |((with_reducible refine(sw x f v ⟨sa,sn,sc⟩ ⟨some ⟨m,A,none⟩,kn,kc⟩ _ (L.out.go W.out)).mono ?_);rintro e w2 ⟨he,hb⟩;rw[Hv]at he;subst he;have b7:=O (I W hb);have a0:=O (H1.go hb);have b3:=O ((hb.block _ a5).trans H2);obtain⟨_,_,_,_,_,_,_,c7,c8⟩:=a0.cells;have R:=eb a5 hb.size;clear hb)
  |((with_reducible refine(ix (i:Int) (-1) _ _).mono ?_);rintro e w3 ⟨he,hb⟩;rw[e7]at he;subst he;have g:=O (I b7 hb);have E:=O (a0.go hb);have F:=O ((hb.block _ R).trans b3);clear hb))
 have g7:0<=(i:Int):=by omega
 have e0:sn<=1000000:=L.sn;obtain⟨_,_,_,_,_,_,_,c5,c6⟩:=E.cells;have P:=E.lt;have g4:=TK F;have b0:m<w3.heap.size:=eb (hD _ d7) g.size;have k1:=(g.cell (p:=⟨m,A+i*2+1,none⟩) (hD _ d7)).trans K1;clear c7 c8;go_upto_region 6 with fail;refine ic 12 [11] [] [(0,true),(1,true),(2,true),(3,true),(4,true),(5,true),(6,true),(7,true),(8,false),(9,true),(10,true),(11,true)] (by kernel_rfl) (by kernel_rfl) ⟨by simp,by simp,fun _ h=>by cases h⟩ (fun _ _ _ _ _ h=>h) (fun _ _ o _ _ h=>by cases o<;>exact h) ?_
 iterate 8
  refine gZ (v:=?_) ?_ ?_;rotate_left
  .intro y hy
   have y7:=(hy.cell (p:=⟨w.heap.size,7,none⟩) P).trans c5;have y8:=(hy.cell (p:=⟨w.heap.size,8,none⟩) P).trans c6;have y1:=(hy.cell (p:=⟨m,A+i*2+1,none⟩) b0).trans k1;go_simp;with_reducible rfl
  try simp only[V]
 clear c5 c6 k1;refine iK (fun xa e3 K hK=>?_);go_simp;have z:=gJ (k:=1) e3;have a6:=g.trans (z.mono g.size);refine(wW x.l y.zs sa ya sn sc yn yc xa ((L.go a6).l) e0 (f0.go a6) g3).mono ?_;rintro e w5 (⟨f9,_⟩|⟨a,v5,Q,rfl,ho,a3⟩)
 .exact absurd (f9.symm.trans c0) (by simp)
 obtain rfl:a=l':=by have:=Q.symm.trans c0;simpa using this
 obtain⟨B,C,rfl,f2⟩:=ho.r.sl;refine hK _ _ a3 ?_;clear hK K;(try simp only[V]);have j:=O (z.trans (a3.mono z.size));have Ho:=O ho;have M:=O z.size;clear ho e3 z a6 a3 Q f2
 iterate 2
  refine gZ (v:=?_) ?_ ?_;rotate_left
  .intro y hy
   skip;go_simp;with_reducible rfl
  try simp only[V]
 iterate 1
  refine iy (v:=?_) ?_ ?_;rotate_left
  .intro y
   go_simp;with_reducible rfl
  try simp only[V]
 refine jV rfl (fun w6 a4=>?_);(try simp only[V]);have d:=j.trans (a4.mono j.size);have q:=E.go d;have b4:=O ((d.block _ (TK F)).trans F);have c3:=O (Ho.go a4);have b8:=O (g.trans (d.mono g.size));have c7:=q.cells.2.2.2.2.2.2.2.1;have f7:=q.free 7;have f5:=q.lt;have b1:=O q;clear d q a4 Ho j;go_upto_region 7 with fail;refine gI (fun c=>kr c w 37 {x with l:=a} f v ⟨B,a.length,C⟩ ⟨some ⟨m,A,none⟩,kn,kc⟩/\c.heap[w.heap.size+1]? =some (.cells #[ik,oZ,oZ,oZ,oZ,oN,oN,oN,oN] 37 (0,0))/\oJ xa c (.slice B a.length C) a/\Below w w c) ⟨gG b1 7 _,gF b4 ⟨w.heap.size,7,none⟩ (by simp) _,c3.keep ((gK w [_] 7 w6).mono (fun b h=>by have:=h.1;have:=M.out;omega)) (by simp),b8.setCell (p:=⟨w.heap.size,7,none⟩) (ag _) _⟩ ?_;clear b1 b4 c3 b8 c7 f7 f5 H1 H2 W b7 a0 b3 g E F R f4 a5;rintro w7 ⟨t,d1,d8,d2⟩;have c8:=t.cells.2.2.2.2.2.2.2.2;have f8:=t.free 8;have f6:=t.lt;have b2:=O t;have b5:=O d1;have c4:=O d8;have b9:=O d2;clear t d1 d8 d2;go_upto_region 8 with fail;refine gI (fun c=>kr c w 37 {x with l:=a,cf:=[]} f v ⟨B,a.length,C⟩ ⟨none,0,0⟩/\c.heap[w.heap.size+1]? =some (.cells #[ik,oZ,oZ,oZ,oZ,oN,oN,oN,oN] 37 (0,0))/\oJ xa c (.slice B a.length C) a/\Below w w c) ⟨gG b2 8 _,gF b5 ⟨w.heap.size,8,none⟩ (by simp) _,c4.keep ((gK w [_] 8 w7).mono (fun b h=>by have:=h.1;have:=M.out;omega)) (by simp),b9.setCell (p:=⟨w.heap.size,8,none⟩) (ag _) _⟩ ?_;clear b2 b5 c4 b9 c8 f8 f6;rintro w8 ⟨d0,a2,d9,d3⟩;have g6:=TK a2;have e5:=O d0;have b6:=O a2;have e8:=O d9;have e6:=O d3;clear d0 a2 d9 d3
 go_wp2_with(first
  |(refine it e5 rfl (.tmp 2) rfl rfl ?_)
  |(refine ja {x with l:=a,cf:=[]} f v ⟨B,a.length,C⟩ ⟨none,0,0⟩ b6 rfl rfl (.tmp 4) (.tmp 34) rfl rfl rfl ?_;intro w9 h9 e9;have H9:=O h9;have c1:=O e9;clear h9 e9 b6))
 refine ar (vW rfl rfl rfl H9) rfl ?_
 have d4:Below w w w9:=by rw[c1];exact ig (bY _) _ _ e6
 have g0:oJ xa w9 (.slice B a.length C) a:=by
  rw[c1];exact e8.keep ((gK (w+1) _ 0 w8).mono (fun b h=>by have:=h.1;have:=M.out;omega)) (by rw[im];exact ag _)
 have g1:w.heap.size<=xa.heap.size:=by have:=M.out;omega
 refine⟨f,v,⟨B,a.length,C⟩,⟨none,0,0⟩,by rw[H];rfl,?_,d4⟩;rw[H];exact mj.newl (Hx.at'.kept (T:=D) ((gE d4).mono hD) (fun b h=>h)) (fun b h=>eb (hD b h) g1) g0 (by rw[c2];exact e0) (fun b h=>VR h) (fun b h1 h2=>VS ⟨by omega,h2⟩)
def KS(x:gR)(f v s k:iJ)(w:World)(D:Nat->Prop)(c:∀b,D b->b<w.heap.size)(a:Int)(e:mj D w x f v s k)(d:iI x=true)(h1: -1<=a)(h2:a<(x.cf.length:Int)):
 Calls prog 33 #[jG x f v s k,a] w (Ic D w x a):=by
 by_cases h:a<0
 .exact KQ x f v s k w D c a e d h1 h
 .exact KR x f v s k w D c a e d (by omega) h2
def Bk(w:World):
 Calls prog 11 #[] w (fun e w'=>∃a c,e=.returned (.slice a 3 c)/\RR EQ 10 (fun b=>w.heap.size<=b/\b<w'.heap.size) w' a 3 c np/\Below w w w'):=by
 go_enter func11,ntmps11;go_wp2;go_ret;refine⟨_,_,rfl,?_,gY (TH _ _)⟩;refine⟨rfl,ag _,fun _=>⟨w.heap.size,0,rfl,⟨ag _,by simp⟩,fun i x d=>?_⟩⟩;have hb:=TL w (.cells (AW.cells++D8.cells++Cg.cells).toArray 115)
 match i,d with
 |0,d=>
  obtain rfl:AW=x:=by simpa[np]using d
  exact⟨_,⟨rfl,by decide⟩,fun j v f=>by
   have g:j<10:=(TG.1 f).1
   have e:(AW.cells++D8.cells++Cg.cells)[j]? =some v:=by rw[aC,aF g];exact f
   have h:=VV hb j;rw[bo,e]at h;rw[show 0+0*10+j=j by omega]
   exact h⟩
 |1,d=>
  obtain rfl:D8=x:=by simpa[np]using d
  exact⟨_,⟨rfl,by decide⟩,fun j v f=>(VV hb (10+j)).trans (by have g:j<10:=(TG.1 f).1;rw[bo,aC,aY (by show 10<=10+j;omega),aF (by show 10+j-10<10;omega)];rw[show 10+j-AW.cells.length=j by show 10+j-10=j;omega];exact f)⟩
 |2,d=>
  obtain rfl:Cg=x:=by simpa[np]using d
  exact⟨_,⟨rfl,by decide⟩,fun j v f=>(VV hb (20+j)).trans (by have g:j<10:=(TG.1 f).1;rw[bo,aC,aY (by show 10<=20+j;omega),aY (by show 10<=20+j-10;omega)];rw[show 20+j-AW.cells.length-D8.cells.length=j by show 20+j-10-10=j;omega];exact f)⟩
 |i+3,d=>simp[np]at d
def qF(l:List gM):Prop:=∀y∈l,∃k,k<5/\y.s.gA=kM k
def Ck:Ch np where
 ok:=fun g d=>(EP d).1
 ne:=by
  intro i j x y a b c;have hi:i<3:=(TG.1 a).1
  match i,hi,j,c with
  |1,_,0,_=>cases a;cases b;decide+kernel
  |2,_,0,_=>cases a;cases b;decide+kernel
  |2,_,1,_=>cases a;cases b;decide+kernel
 len:=by decide
def xj{ws:List Int}(hw:xV ws (ws.length/2)){g:jQ}(a:g∈np):∀j,j<ws.length/2->g.lo<=ws.getD (j*2) 0/\ws.getD (j*2) 0<=g.hi/\g.Far (ws.getD (j*2) 0)/\ ∃A S,Sx g (ws.getD (j*2) 0) A S:=by
 intro j b;obtain⟨h1,h2⟩:=hw j b;obtain⟨_,c,d⟩:=EP a;exact⟨by omega,by omega,KJ a h1 h2,KL a h1 h2⟩
def KT{ws:List Int}{y:gM}{l:List gM}{i:Nat}(hw:xV ws (ws.length/2))(a:∃k,k<5/\y.s.gA=kM k)(h1:zN l i y=false)(h2:y.s.gA.toList.isEmpty=false):Ia np ws y:=by
 obtain⟨k,b,e⟩:=a
 match k,b,e with
 |0,_,e=>rw[e]at h2;exact absurd h2 (by decide+kernel)
 |1,_,e=>exact⟨0,AW,rfl,e.symm,xj hw (by simp[np])⟩
 |2,_,e=>exact⟨1,D8,rfl,e.symm,xj hw (by simp[np])⟩
 |3,_,e=>
  unfold zN at h1;rw[e,show((kM 3).toList==Dm)=true from by decide+kernel]at h1;simp at h1
 |4,_,e=>exact⟨2,Cg,rfl,e.symm,xj hw (by simp[np])⟩
def PH(m:Nat):pB (List Int):=fun S w zs cs=>∃a c,cs=[.slice a m c]/\IRp S w 1 a m c zs/\(a=none->c=0)/\xg zs
def EY(m:Nat):kR 1 (PH m) where
 len:=by rintro S w x cs ⟨a,c,rfl,_⟩;rfl
 kept:=by rintro S T w w' x cs ⟨a,c,e,h,r⟩ d f;exact⟨a,c,e,h.kept d f,r⟩
 one:=by rintro S w x cs ⟨a,c,rfl,_⟩ v b;simp only[aS,bi,cR]at b;obtain rfl:=b;rfl
def yK(x:gR)(f v s k p:iJ):List Value:=[.string x.nm,.int .i64 x.i9,.int .i64 x.pb,.int .i64 x.stop,.int .i64 x.p9,.slice f.a f.n f.c,.slice v.a v.n v.c,.slice s.a s.n s.c,.slice k.a k.n k.c,.slice p.a p.n p.c]
def xk(w:World)(g:Nat)(x:gR)(f v s k p:iJ):Prop:=w.heap[g]? =some (.cells (yK x f v s k p).toArray 40 (0,0))
def If(x:gR)(f v s k p:iJ):Value:=.agg #[x.nm,x.i9,x.pb,x.stop,x.p9,Z f.a f.n f.c,Z v.a v.n v.c,Z s.a s.n s.c,Z k.a k.n k.c,Z p.a p.n p.c]
def Tryz.infoOpt:(prog.info? 40).map (·.size)=some 10:=by kernel_rfl
def Tryz.infoInts:(prog.info? 109).map (fun i=>(i.zero,i.size,i.bytes))=some (some (.slice none 0 0),1,24):=by kernel_rfl
def rA{ops:Array Oper}{b:List Oper}{e:Oper}{d:Act}{w:World}{Q:Exit->Act->World->Prop}{g:Nat}{cs:Array Value}(x:gR)(f v s k p:iJ)(h:w.heap[g]? =some (.cells cs 40 (0,0)))(i:cs.size=10)(j:e.guard=none)(y z:Operand)(m:e.op=.store 40 y z)
 (o:d.eval y=.pointer (J g))(q:d.eval z=.agg #[x.nm,x.i9,x.pb,x.stop,x.p9,Z f.a f.n f.c,Z v.a v.n v.c,Z s.a s.n s.c,Z k.a k.n k.c,Z p.a p.n p.c])
 (l:∀w',xk w' g x f v s k p->w'=w.setCells g 0 (yK x f v s k p)->wpList prog ops Q b (d.put e.dst undef) w'):wpList prog ops Q (e::b) d w:=
 wpList_store_mid j 40 y z m g 0 _ o q (tF h i) Tryz.infoOpt (by simp[Value.oneCell']) (l _ (tE h i) rfl)
def xk.range{w:World}{g:Nat}{x:gR}{f v s k p:iJ}(h:xk w g x f v s k p):w.rangeAt g 0 (yK x f v s k p):=xK h
def xk.lt{w:World}{g:Nat}{x:gR}{f v s k p:iJ}(h:xk w g x f v s k p):g<w.heap.size:=TK h
def xk.go{w w':World}{g:Nat}{x:gR}{f v s k p:iJ}(h:xk w g x f v s k p)(hb:Below w w w'):xk w' g x f v s k p:=(hb.block g h.lt).trans h
def ww{ops:Array Oper}{b:List Oper}{d:Oper}{e:Act}{w:World}{Q:Exit->Act->World->Prop}{g:Nat}{x:gR}{f v s k p:iJ}(h:xk w g x f v s k p)(i:d.guard=none)(y:Operand)(l:d.op=.load 40 y)
 (m:e.eval y=.pointer (J g))(j:wpList prog ops Q b (e.put d.dst (.agg #[x.nm,x.i9,x.pb,x.stop,x.p9,Z f.a f.n f.c,Z v.a v.n v.c,Z s.a s.n s.c,Z k.a k.n k.c,Z p.a p.n p.c])) w):wpList prog ops Q (d::b) e w:=
 wpList_load_mid i 40 y l g 0 m (yK x f v s k p) _ h.range underlying40 rfl Tryz.infoOpt j
def EZ{fn:Func}{p u:Tmp}{tmps:Array Value}{w:World}{g:Nat}{x:gR}{f v s k q:iJ}{e:Value}(h:fn.results=#[.cell p 40,.tmp u])(a:tmps.getD p undef=.pointer (J g))(c:tmps.getD u undef=e)(b:xk w g x f v s k q):
 (results fn tmps).run prog w=.ok (.tuple #[If x f v s k q,e]) w:=by
 rw[results_cell_tmp h,a,c];simp only[asAddr,cT,bU];rw[run_loadVar_row w g 40 40 _ (0,0) _ b underlying40 rfl Tryz.infoOpt];rfl
def PI{fn:Func}{p:Tmp}{tmps:Array Value}{w:World}{g:Nat}{x:gR}{f v s k q:iJ}(h:fn.results=#[.cell p 40])(a:tmps.getD p undef=.pointer (J g))(b:xk w g x f v s k q):
 (results fn tmps).run prog w=.ok (If x f v s k q) w:=
 results_cell_row h tmps w g 40 _ (0,0) _ a b underlying40 rfl Tryz.infoOpt
def qH(k:Nat):∃j,j<5/\kM k=kM j:=match k with
 |0=>⟨0,by omega,rfl⟩
 |1=>⟨1,by omega,rfl⟩
 |2=>⟨2,by omega,rfl⟩
 |3=>⟨3,by omega,rfl⟩
 |_+4=>⟨4,by omega,rfl⟩
def Ih(x:tz):∃k,k<5/\(oh x).s.gA=kM k:=by
 unfold oh
 repeat' split
 .exact qH _
 .exact qH _
 .exact⟨0,by omega,rfl⟩
 .exact⟨0,by omega,rfl⟩
 .exact qH _
 .exact qH _
 .exact qH _
def tW(c t:Int):∃k,k<5/\(jB c t).gA=kM k:=⟨0,by omega,rfl⟩
def Ii(x:rz):qF (Dp x):=by
 have h0:qF (om x):=by
  unfold om;split
  .intro y a;obtain rfl:=aK.1 a;exact tW _ _
  .intro y a
   obtain⟨z,_,rfl⟩:=cP.1 a;exact Ih z
 have h1:qF (zU x):=by
  unfold zU;split
  .intro y a
   obtain a|rfl:=bH a
   .exact h0 y a
   .exact tW _ _
  .exact h0
 intro y a
 obtain a|a:=bj.1 a
 .exact h1 y a
 .obtain rfl:=aK.1 a;exact tW _ _
def Cn(s:gW){p:Int}(v:Int)(h1:1<=p)(h2:p<=17):(s.put p v).gA=s.gA/\(s.put p v).kind=s.kind/\(s.put p v).order=s.order/\(p≠9->(s.put p v).tg=s.tg):=by
 obtain rfl|rfl|rfl|rfl|rfl|rfl|rfl|rfl|rfl|rfl|rfl|rfl|rfl|rfl|rfl|rfl|rfl:=oL h1 h2
 all_goals first|exact⟨rfl,rfl,rfl,fun _=>rfl⟩|exact⟨rfl,rfl,rfl,fun h=>absurd rfl h⟩
def JE{l:List gM}{i p v:Int}(h:nT l i p v=true):∃(k:Nat)(y:gM),i=(k:Int)/\l[k]? =some y/\qy l i p v=l.set k ⟨y.s.put p v,y.zs⟩/\tr ⟨y.s.put p v,y.zs⟩=true/\(p≠9\/k+1<l.length)/\1<=p/\p<=17:=by
 have hb:=h;unfold nT at hb;simp only[am]at hb;obtain⟨b,a⟩:=hb;obtain⟨k,y,rfl,f,c,e,d⟩:=MR b;rw[aI,c]at a;simp only[aD]at a;refine⟨k,y,rfl,c,?_,?_,?_,oM d⟩
 .unfold qy
  rw[aI,c];simp only;rw[aq h]
 .unfold mw at a
  split at a
  .split at a
   .assumption
   .cases a
  .contradiction
 .unfold qx at b
  simp only[am,dN,fk,aD]at b
  obtain h9|h9:=b.2
  .exact VR h9
  .exact VS (by omega)
def Ij{l:List gM}(h:qF l){i p v:Int}(d:nT l i p v=true):qF (qy l i p v):=by
 obtain⟨k,y,rfl,f,e,_,_,g,m⟩:=JE d;rw[e];intro z a
 obtain a|rfl:=bH a
 .exact h z a
 .obtain⟨j,c,b⟩:=h y (aL f)
  exact⟨j,c,(Cn y.s v g m).1.trans b⟩
def KX{stop:Int}{l:List gM}{i p v:Int}(h:iW stop l=true)(q:nT l i p v=true):iW stop (qy l i p v)=true:=by
 obtain⟨k,y,rfl,d,e,m,j,u,w⟩:=JE q;obtain⟨k1,o,r,t⟩:=Cn y.s v u w;have x:k<l.length:=(TG.1 d).1;rw[e];unfold iW at h⊢;simp only[am]at h⊢;obtain⟨⟨⟨⟨h1,h2⟩,h3⟩,b⟩,h5⟩:=h;rw[dL];refine⟨⟨⟨⟨h1,h2⟩,?_⟩,?_⟩,?_⟩
 .unfold uM at h3⊢
  rw[di,du]at h3⊢;intro z f
  obtain f|rfl:=bH f
  .exact h3 z f
  .rw[m];decide
 .unfold pe at b⊢
  rw[dL,cF];by_cases a:k=l.length-1
  .rw[aq a]
   rw[<- a,d]at b;rw[aq (by omega)];simp only at b⊢
   have n:p≠9:=by
    obtain h|h:=j
    .exact h
    .omega
   unfold pM at b⊢;rw[k1,o,r,t n];exact b
  .rw[aj a]
   exact b
 .have g:kU (l.set k ⟨y.s.put p v,y.zs⟩) stop=kU l stop:=by
   unfold kU;rw[cF];by_cases c:k=stop.toNat
   .rw[aq c,aq (by omega),<- c,d]
    exact o
   .rw[aj c]
  rw[g];exact h5
def Ff{l:List gM}{zs:List Int}{n:Nat}{l':List gM}(h:tu l zs (n+1)=some l'):∃a,tu l zs n=some a/\nT a (zs.getD (n*3) 0) (zs.getD (n*3+1) 0) (zs.getD (n*3+2) 0)=true/\l'=qy a (zs.getD (n*3) 0) (zs.getD (n*3+1) 0) (zs.getD (n*3+2) 0):=by
 rw[tu]at h
 cases hc:tu l zs n with
 |none=>rw[hc]at h;cases h
 |some a=>
  rw[hc]at h;simp only[aO]at h;split at h
  .rename_i hh
   cases h;exact⟨a,rfl,hh.2,rfl⟩
  .cases h
def Co{l:List gM}{zs:List Int}(h:qF l):∀{n:Nat}{l':List gM},tu l zs n=some l'->qF l'
 |0,l',e=>by cases e;exact h
 |n+1,l',e=>by
  obtain⟨b,e0,a,rfl⟩:=Ff e;exact Ij (Co h e0) a
def Fg{stop:Int}{l:List gM}{zs:List Int}(h:iW stop l=true):∀{n:Nat}{l':List gM},tu l zs n=some l'->iW stop l'=true
 |0,l',e=>by cases e;exact h
 |n+1,l',e=>by
  obtain⟨b,e0,a,rfl⟩:=Ff e;exact KX (Fg h e0) a
def zV{x:gR}{a:Int}(e:iI x=true)(h2:a<(x.cf.length:Int)):zO x a=x.l\/ ∃(zs:List Int)(n:Nat),tu x.l zs n=some (zO x a):=by
 by_cases h:a<0
 .left;unfold zO;rw[aq h]
 .right
  obtain⟨i,rfl⟩:∃i:Nat,a=(i:Int):=⟨a.toNat,by omega⟩;obtain⟨c,b⟩:∃c,x.cf[i]? =some c:=⟨_,ae (by omega)⟩;obtain⟨l',d,_⟩:=Jz e b;refine⟨c.zs,c.zs.length/3,?_⟩;unfold zO;rw[aj h,aI,b];simp only[d,Option.getD_some]
def KY{x:gR}{a:Int}(h:qF x.l)(b:iI x=true)(h2:a<(x.cf.length:Int)):qF (zO x a):=by
 obtain e|⟨zs,n,e⟩:=zV b h2
 .rw[e];exact h
 .exact Co h e
def KZ{x:gR}{b:Int}(f:iI x=true)(h2:b<(x.cf.length:Int)):iI (TR x b)=true:=by
 have a:∀j,j<6->jO x j=true:=fun j c=>an.1 f j (aJ.2 c)
 have g:iW x.stop (zO x b)=true:=by
  obtain e|⟨zs,n,e⟩:=zV f h2
  .rw[e];exact a 4 (by omega)
  .exact Fg (a 4 (by omega)) e
 refine an.2 fun j c=>?_
 have d:=aJ.1 c
 match j,d with
 |0,_=>exact a 0 (by omega)
 |1,_=>exact a 1 (by omega)
 |2,_=>exact a 2 (by omega)
 |3,_=>exact a 3 (by omega)
 |4,_=>exact g
 |5,_=>rfl
def PJ(D:Nat->Prop)(w:World)(x:gR)(g:Int)(e:Ending)(w':World):Prop:=
 ∃f v s k p d,e=.returned (.tuple #[If (TR x g) f v s k p,oZ])/\mj (fun b=>D b\/(w.heap.size<=b/\b<w'.heap.size)) w' (TR x g) f v s k/\RR (PH v.n) 1 (fun b=>w.heap.size<=b/\b<w'.heap.size) w' p.a p.n p.c d/\d.length=(TR x g).l.length/\Below w w w'
def PK{x:gR}(h:iI x=true):1<=x.ws.length/2/\x.ws.length/2<=5:=by
 have h3:jO x 3=true:=an.1 h 3 (by decide);have a:VY x.p9 x.ws (x.ws.length/2)=true:=h3;unfold VY at a;simp only[am]at a;have:=a.1.2;unfold bt at this;simp at this;omega
def Np(x:gR)(f v s k:iJ)(w:World)(D:Nat->Prop)(W:∀b,D b->b<w.heap.size)(H:Int)(ga:Option Addr)(gc:Nat)(hx:mj D w x f v s k)(hv:iI x=true)(h1: -1<=H)(h2:H<(x.cf.length:Int))
 (g0:RR EQ 10 (fun b=>b<w.heap.size) w ga 3 gc np)(g7:xV x.ws (x.ws.length/2))(hgl:qF (zO x H)):
 Calls prog 10 #[jG x f v s k,Z ga 3 gc,H] w (PJ D w x H):=by
 have Hx:=O hx;have Hv:=O hv;have e7:=O g0;have i9:=O g7;have i2:=O hgl;have i4:=O (hx.at'.kept (gN.refl _ _) W:iP (fun b=>b<w.heap.size) w x f v s k);clear hx hv g0 g7 hgl;obtain⟨e1,e2⟩:=iN w (.cells (iw x f v s k).toArray 37) (.cells #[ik,oZ,oZ,oZ,oZ,oN,oN,oN,oN,oN] 40);have g:=O (iH (w:=w) (.cells (iw x f v s k).toArray 37) (.cells #[ik,oZ,oZ,oZ,oZ,oN,oN,oN,oN,oN] 40));have E1:=O e1;have E2:=O e2;clear e1 e2;unfold jG;go_enter func10,ntmps10;go_upto_region 1 with fail;refine gI (fun B=>kr B w 37 x f v s k/\B.heap[w.heap.size+1]? =some (.cells #[ik,oZ,oZ,oZ,oZ,oN,oN,oN,oN,oN] 40 (0,0))/\Below w w B) ⟨E1,E2,g⟩ ?_;clear E1 E2 g;rintro w1 ⟨f3,f5,hb⟩;have H1:=O f3;have H2:=O f5;have g:=O hb;clear f3 f5 hb
 go_wp2_with(refine it H1 rfl (.tmp 3) rfl rfl ?_)
 refine(sw x f v s k _ (i4.go g)).mono ?_;rintro e w2 ⟨he,a8⟩;rw[Hv]at he;subst he;have d8:=O (H1.go a8);have b6:=O ((a8.block _ (TK H2)).trans H2);have b7:=O (I g a8);clear a8 H1 H2 g;go_wp2_with fail;refine(Dl np ga 3 gc _ (e7.go wl b7) Ck).mono ?_;rintro e w3 ⟨rfl,a9⟩;have d9:=O (d8.go a9);have a0:=O ((a9.block _ (TK b6)).trans b6);have a1:=O (I b7 a9);clear a9 d8 b6 b7
 go_wp2_with(refine it d9 rfl (.tmp 3) rfl rfl ?_)
 have g8:=Hx.go (E:=D) a1 W (fun b h=>h);refine(KS x f v s k w3 D (fun b h=>eb (W b h) a1.size) H g8 Hv h1 h2).mono ?_;clear g8;rintro e R ⟨K,v4,s4,M,he,u,o⟩;obtain⟨y,hy⟩:∃y,y=TR x H:=⟨_,rfl⟩;rw[<- hy]at he u;unfold jG at he;subst he
 have d3:y.ws=x.ws:=by rw[hy];rfl
 have g9:y.l=zO x H:=by rw[hy];rfl
 have d1:v4.n=x.ws.length/2:=by rw[<- d3];exact qW u.at'.ws
 have d0:y.l.length=s4.n:=u.at'.l.1;have j9:s4.n<=1000000:=u.at'.sn;have k0:=PK Hv;have c1:=(o.block _ (TK a0)).trans a0;have a2:=O (I a1 o);have f2:=O u;have h7:=O c1;have Hy:=O hy;have j1:=O d3;have j0:=O g9;have f1:=O d0;have d6:=TK c1;have k1:=TK a0;obtain⟨sa,n,N⟩:=s4;obtain⟨P,m,Q⟩:=v4;simp only at d1 d0 j9
 have j8:m<=5:=by omega
 have k9:1<=m:=by omega
 have k7:=O d1;clear o u c1 d9 a0 a1 hy d3 g9 d1 d0 k0;go_upto_region 7 with fail;refine gI (fun B=>kr B R 37 y K ⟨P,m,Q⟩ ⟨sa,n,N⟩ M/\Below R R B) ⟨TL R _,gY (TH _ _)⟩ ?_;rintro d ⟨h5,f7⟩;have C:=O h5;have b8:=O f7;clear h5 f7
 go_upto_region 10 with(refine it C rfl (.tmp 9) rfl rfl ?_)
 refine gI (fun B=>xk B d y K ⟨P,m,Q⟩ ⟨sa,n,N⟩ M ⟨none,0,0⟩/\Below d d B) ⟨TL d _,gY (TH _ _)⟩ ?_;rintro w6 ⟨h6,f8⟩;have S:=O h6;have b9:=O f8;clear h6 f8;have a6:=C.go b9;have k8:=C.lt;have j7:=S.lt;obtain⟨_,_,_,_,_,_,c6,c7,_⟩:=a6.cells;have z:=O (b8.trans (b9.mono b8.size));have d7:=a6.lt;have e0:=O a6;clear a6 C;go_wp2_with fail;refine(Jx m w6 (by omega)).mono ?_;rintro e w7 ⟨ov,qs,rfl,ho,rfl,b0⟩;obtain⟨oa,oc,rfl,q1,q2⟩:=lc ho;have e3:=O (e0.go b0);have e4:=O (S.go b0);have k6:=b8.size;have e8:=O q1;have f0:=O (q2.kept (T:=fun b=>b<w7.heap.size) (gN.refl _ _) (fun b h=>h.2));have a3:=O (z.trans (b0.mono z.size));clear ho b0 q1 q2 c6 c7 e0 S z j7 d7 b9;go_wp2
 go_loopw [12,13] (fun av iv wr=>∃(i:Nat)(za:Option Addr)(zc:Nat)(zs:List Int)(r:iJ)(j:List (List Int)),i<=n/\iv=.int .i64 (i:Int)/\av=.slice za m zc/\IRp (fun b=>b<wr.heap.size) wr 1 za m zc zs/\(za=none->zc=0)/\xg zs/\j.length=i/\jD (PH m) 1 109 (d+1) wr r.v j/\kr wr R 37 y K ⟨P,m,Q⟩ ⟨sa,n,N⟩ M/\xk wr d y K ⟨P,m,Q⟩ ⟨sa,n,N⟩ M r/\Below R R wr) (fun _ iv _=>n-(intOf iv).toNat)
 case atStart=>exact⟨0,oa,oc,_,⟨none,0,0⟩,[],by omega,rfl,rfl,f0,e8,EU m,rfl,jD.nil _ _ _ _ _,e3,e4,a3⟩
 case round=>
  clear e8 f0 e3 e4 a3;obtain⟨i,za,zc,zs,r,j,hi,rfl,rfl,hz,h3,h4,g4,g5,h5,h6,hb⟩:=hrel;obtain⟨_,_,_,_,_,_,_,c7,_⟩:=h5.cells;have k2:=h5.lt;have k5:=h6.lt;have Hz:=O hz;have j2:=O h3;have j3:=O h4;have a5:=O g4;have F:=O g5;have C:=O h5;have S:=O h6;have g:=O hb;clear hz h3 h4 g4 g5 h5 h6 hb;by_cases j6:i<n
  .obtain⟨yi,d2⟩:∃yi,y.l[i]? =some yi:=⟨_,ae (by rw[f1];exact j6)⟩
   have b4:=aL d2;have g1:iP (fun b=>b<wr.heap.size) wr y K ⟨P,m,Q⟩ ⟨sa,n,N⟩ M:=f2.at'.kept ((gE g).mono (fun b h=>by obtain h|h:=h;have:=W b h;omega;exact h.2)) (fun b h=>by have:=g.size;obtain h|h:=h;have:=W b h;omega;have:=h.2;omega);have b2:=e7.go wl (a2.trans (g.mono a2.size))
   have g6:zN y.l i yi=false->yi.s.gA.toList.isEmpty=false->Ia np y.ws yi:=fun q1 q2=>KT (by rw[j1];exact i9) (i2 yi (by rw[<- j0];exact b4)) q1 q2
   have i1:=O (show∀b,wr.heap.size<=b->r.v.ownBlock≠some b from fun b h=>F.fresh h);have a4:=O (Ib y K ⟨P,m,Q⟩ ⟨sa,n,N⟩ M np ga 3 gc i yi za zc zs wr g1 d2 b2 Ck Hz j2 j3 j8 g6);clear d2 b4 g1 b2 g6
   go_wp2_with(refine it C rfl (.tmp 9) rfl rfl ?_)
   refine a4.mono ?_;rintro e X ⟨na,nc,nz,rfl,c5,c3,c4,t⟩;have f6:=C.go t;have a7:=S.go t;have l0:=t.size;have b5:=F.go (EY m) t;have c9:X.cell? ⟨d.heap.size,9,none⟩=some (.slice r.a r.n r.c):=(VV a7 9).trans rfl;have k3:=a7.lt;have b3:PH m (fun b=>d.heap.size+1<=b/\b<X.heap.size/\r.v.ownBlock≠some b) X nz [Z na m nc]:=⟨na,nc,rfl,c5.kept (gN.refl _ _) (fun b h=>⟨by have:=h.1;omega,h.2,F.fresh h.1⟩),c3,c4⟩;have h8:=O f6;have e5:=O a7;have d5:=O b5;have d4:=O b3;have i7:=O c5;have i5:=O c3;have i6:=O c4;have i0:=O (g.trans (t.mono g.size));clear f6 a7 b5 b3 c5 c3 c4 t a4 C S F g c7
   go_wp2_with(refine kA (EY m) underlying38 Tryz.infoInts rfl (by omega) (by omega) rfl (.tmp 62) (.tmp 64) rfl (d+1) X _ j nz [Z na m nc] i a5 rfl d5 rfl rfl d4 (by rw[a5];omega) (by omega) ?_;intro g3 A q g2 o L c8;have i8:=O g2;have e6:=O o;have i3:=O L;have c9:=(((o _ _ (ag _) (TH (d+1) X)).cell (p:=⟨d.heap.size,9,none⟩) (dk _))).trans c9;have f9:q.frozen? ⟨d.heap.size,9,none⟩=false:=(by rw[World.frozen?,(o _ _ (ag _) (TH (d+1) X)).block d (dk _),e5];rfl);clear g2 o L)
   go_roundw
   case rel=>
    have b1:=e6 _ _ (ag _) (TH (d+1) X);have c2:gN (fun b=>b≠d.heap.size) q (q.setCell ⟨d.heap.size,9,none⟩ (.slice (J g3) (i+1) A)):=gK d [_] 9 q
    have h0:(q.setCell ⟨d.heap.size,9,none⟩ (.slice (J g3) (i+1) A)).heap.size=q.heap.size:=by simp
    refine⟨i+1,na,nc,nz,⟨some ⟨g3,0,none⟩,i+1,A⟩,j++[nz],by omega,by go_num,rfl,?_,i5,i6,by rw[al,a5];rfl,?_,?_,?_,?_⟩
    .exact(i7.kept (T:=fun b=>wr.heap.size<=b/\b<q.heap.size) (i3.mono (fun b h=>⟨h.2,i1 b h.1⟩)) (fun b h=>⟨h.1,eb h.2 c8⟩)).kept (c2.mono (fun b h=>by have:=h.1;omega)) (fun b h=>by rw[h0];exact h.2)
    .exact i8.keep (EY m) (c2.mono (fun b h=>by have:=h.1;omega)) (by rw[h0];exact ag _)
    .exact(c2 _ (by omega)).trans ((b1.block _ (by omega)).trans h8)
    .exact gG ((b1.block _ (dk _)).trans e5) 9 _
    .exact(e6 _ _ (by omega) i0).setCell (p:=⟨d.heap.size,9,none⟩) (by show R.heap.size<=d.heap.size;omega) _
   case measure=>simp[intOf];omega
  .obtain rfl:i=n:=by omega
   have j4:=(g.block _ d6).trans h7
   go_wp2_with(first
    |(refine ww S rfl (.tmp 11) rfl rfl ?_)
    |(refine rA y K ⟨P,m,Q⟩ ⟨sa,i,N⟩ M r j4 rfl rfl (.tmp 6) (.tmp 68) rfl rfl rfl ?_;intro q h9 e9;have H9:=O h9;have c0:=O e9;clear h9 e9))
   refine ar (EZ rfl rfl rfl H9) rfl ?_
   have L:gN (fun b=>b≠w.heap.size+1) wr q:=by rw[c0];exact gK _ _ _ _
   have c8:q.heap.size=wr.heap.size:=by rw[c0,im]
   have j5:Below w w q:=by rw[c0];exact ig (bY _) _ _ (a2.trans (g.mono a2.size))
   refine⟨K,⟨P,m,Q⟩,⟨sa,i,N⟩,M,r,j,by rw[<- Hy];rfl,?_,?_,?_,j5⟩
   .rw[<- Hy]
    exact f2.keep (((gE g).mono (fun b h=>by obtain h|h:=h;have:=W b h;omega;exact h.2)).trans (L.mono (fun b h=>by obtain h|h:=h;have:=W b h;omega;have:=h.1;omega))) (fun b h=>by
     have:=g.size
     obtain h|h:=h
     .exact VR h
     .exact VS ⟨by have:=h.1;omega,by have:=h.2;omega⟩)
   .exact((jD.rr2 (EY m) F).kept (EY m) (L.mono (fun b h=>by have:=h.1;omega)) (fun b h=>⟨by have:=h.1;omega,by rw[c8];exact h.2⟩))
   .rw[<- Hy,a5,f1]
def PM{ws:List Int}{n:Nat}{p:Int}(b:1<=n)(h5:n<=5)(a:(List.range n).all (jM ws)=true)(h0:0<=p)(h1:p<n):VY p ws n=true:=by
 unfold VY;rw[a];simp[bt];omega
def PN{far:Int}{zs:List Int}{n:Nat}(b:1<=n)(h5:n<=5)(a:(List.range n).all (iV (jj far) zs)=true):jx far zs n=true:=by
 unfold jx;rw[a];simp[bt];omega
def K6(x:rz)(s f v k:iJ)(w:World)(hx:xU (fun b=>b<w.heap.size) w x s f v k):
 Calls prog 9 #[EW x s f v k] w (SD x w):=by
 obtain⟨sa,n,sc⟩:=s;have Hx:=O hx;clear hx;obtain⟨e1,e2⟩:=iN w (.cells (lI x ⟨sa,n,sc⟩ f v k).toArray 28) (.cells #[ik,oZ,oZ,oZ,oZ,oN,oN,oN,oN] 37);have Hb:=O (iH (w:=w) (.cells (lI x ⟨sa,n,sc⟩ f v k).toArray 28) (.cells #[ik,oZ,oZ,oZ,oZ,oN,oN,oN,oN] 37));have E1:=O e1;have E2:=O e2;clear e1 e2;go_enter func9,ntmps9;go_upto_region 1 with fail;refine gI (Ig w x ⟨sa,n,sc⟩ f v k (.slice none 0 0) []) ⟨⟨[],rfl,jD.nil _ _ _ _ _,qu.nil,fun _ h=>by cases h⟩,E1.out,E2.out,Hb.out,fun _ h=>by cases h⟩ ?_;clear E1 E2 Hb;rintro w1 A;have r:=O A;clear A;go_wp2
 go_loopw [3,4] (fun sv iv wr=>∃(i:Nat)(l:List gM),i<=5/\i<=n/\l=(x.surfs.take i).map oh/\l.length=i/\iv=.int .i64 (i:Int)/\Ig w x ⟨sa,n,sc⟩ f v k sv l wr) (fun _ iv _=>5-(intOf iv).toNat)
 case atStart=>exact⟨0,[],by omega,by omega,rfl,rfl,rfl,r.out⟩
 case round=>
  clear r;obtain⟨i,l,hi,p4,j6,hl,rfl,A⟩:=hrel;have g6:=O j6;clear j6;have c0:=A.d.cells.1;have hlt:=A.d.lt;have k1:=A.size;have r:=O A;have X:=O hl;clear A hl;by_cases d0:i<n/\i<5
  .obtain⟨d0,q7⟩:=d0
   obtain⟨bs,so,y,cs,e1,q9,l6,⟨ya,yn,yc,rfl,l0,l1⟩,a7⟩:=(Hx.out.kept (gE r.out.b) (fun b h=>h)).s.at d0
   try simp only at e1
   subst e1;have n3:=O l0;have n4:=O l1;have n5:=O a7;have n7:=O l6;clear l0 l1 a7 l6
   go_wp2_with(first
    |(refine wu n5.out rfl (.tmp 22) rfl rfl ?_)
    |(go_at_call 26;refine(KU y ya yn yc _ (n3.out.kept (gN.refl _ _) (fun b h=>eb h r.out.b.size)) n4.out).mono ?_;rintro e w2 ⟨ys,ca,cn,cc,zs,l4,rfl,j0,h9,i0,b7,i8,b5⟩;have n6:=O l4;have e3:=O j0;have q3:=O h9;have l9:=O i0;have b3:=O b7;have m6:=O i8;have q0:=O b5;have m0:=O (r.out.go b5);have o4:=b5.size;obtain⟨lq,t,u,E,C⟩:=r.out.q;have P:=O ((mD lq).symm.trans (ai List.length t));have b2:=O t;have Hq:=O (u.go jX b5);have b0:=O E;have b4:=O C;clear t u E C;clear l4 j0 h9 i0 b7 i8 b5)
    |(refine kA jX underlying34 Tryz.infoSurf3 rfl (by omega) (by omega) rfl (.tmp 18) (.tmp 25) rfl (w+2) w2 _ lq ⟨⟨ys,zs⟩,wr.heap.size,w2.heap.size⟩ (gX ys ca cn cc) l.length P.out rfl Hq.out rfl rfl ⟨ca,cn,cc,rfl,e3.out.kept (gN.refl _ _) (fun b h=>⟨⟨by omega,h.2,r.out.o.fresh h.1⟩,h⟩),by have:=l9.out;omega,m6.out⟩ (by rw[P.out,X.out];omega) (by omega) ?_;intro g3 a1 w8 T Q _ _;have D:=O (m0.out.more b2.out b0.out b4.out (ag _) o4 (ag _) (by unfold tr;rw[<- mU e3.out.irp];exact b3.out) T Q);clear T Q))
   go_roundw
   case rel=>exact⟨i+1,_,by omega,by omega,by rw[g6.out,n6.out,mn n7.out,aT];rfl,by rw[al,X.out];rfl,by go_num,D.out⟩
   case measure=>simp[intOf];omega
  .have k9:¬i<n\/(i<n/\ ¬i<5):=by omega
   have d3:l=JD x:=by
    rw[g6.out];unfold JD;have hn:x.surfs.length=n:=Hx.out.s.1;by_cases h5:i=5
    .rw[h5]
    .rw[aM (by omega:x.surfs.length<=i),aM (by omega:x.surfs.length<=5)]
   have c5:=O d3;clear d3;clear d0
   obtain⟨oa,oc,rfl⟩:∃oa oc,u3=.slice oa i oc:=by
    obtain⟨a,c,e,_⟩:=jD.sl r.out.o;rw[X.out]at e;exact⟨a,c,e⟩
   go_upto_region 3 with fail
   go_cut [15] (fun v wx=>v=.bool false/\wr=wx)
   case first=>
    obtain hx|⟨hx,hx4⟩:=k9
    all_goals
     go_wp2;go_meet;exact⟨by first|rfl|(simp;omega),rfl⟩
   case rest=>
    obtain⟨rfl,rfl⟩:=hcut;clear k9 c0
    go_upto_if 29 with fail
    go_cut [3] (fun sv wx=>∃(l:List gM),1<=l.length/\l.length<=5/\l=om x/\Ig w x ⟨sa,n,sc⟩ f v k sv l wx)
    case first=>
     by_cases c9:i=0
     .have f6:((i:Int)==0)=true:=by simp;omega
      have b3:=O (show tr ⟨jB 0 10000000,[]⟩=true from wA (by omega) (by omega));have e3:=O (IRp.nil (fun b=>w.heap.size+2<=b/\b<wr.heap.size/\(Value.slice oa i oc).ownBlock≠some b) wr 3 none 0)
      have q6:i+1<=5:=by omega
      have i2:l++[⟨jB 0 10000000,[]⟩]=om x:=by
       unfold om;rw[<- c5.out,aq (by rw[X.out];exact c9)];rw[aX.1 (by rw[X.out];exact c9:l.length=0)];rfl
      have m2:=O i2;clear c9 i2;obtain⟨lq,t,u,E,C⟩:=r.out.q;have P:=O ((mD lq).symm.trans (ai List.length t));have b2:=O t;have Hq:=O u;have b0:=O E;have b4:=O C;clear t u E C
      go_wp2_with(refine kA jX underlying34 Tryz.infoSurf3 rfl (by omega) (by omega) rfl (.tmp 30) (.tmp 32) rfl (w+2) wr _ lq ⟨⟨jB 0 10000000,[]⟩,wr.heap.size,wr.heap.size⟩ (gX (jB 0 10000000) none 0 0) l.length P.out rfl Hq.out rfl rfl ⟨none,0,0,rfl,jN.nil _ _,by omega,lD 0⟩ (by rw[P.out,X.out];omega) (by omega) ?_;intro g3 a1 w8 T Q _ _;have D:=O (r.out.more b2.out b0.out b4.out (ag _) (ag _) (ag _) b3.out T Q);clear T Q)
      go_meet;exact⟨_,by rw[al,X.out];simp,by rw[al,X.out];simp;omega,m2.out,D.out⟩
     .have f6:((i:Int)==0)=false:=by simp;omega
      go_wp2;go_meet;exact⟨l,by rw[X.out];omega,by rw[X.out];omega,(by unfold om;rw[<- c5.out,aj (by rw[X.out];exact c9)]),r.out⟩
    case rest=>
     obtain⟨m,h1,h5,j4,A⟩:=hcut;have e4:=O j4;clear j4;clear r X k1 hlt
     obtain⟨g,oc,rfl,q5,o1⟩:∃g oc,u3=.slice (J g) m.length oc/\w.heap.size+2<=g/\g<wc.heap.size:=by
      obtain ⟨_,e2⟩|⟨g,cap,e,q1,q2,_⟩:=A.o.form
      .rw[e2]at h1;cases h1
      .exact⟨g,cap,e,q1,q2⟩
     obtain⟨f8,f9⟩:=Hx.out.stop
     obtain⟨B,e6,a5⟩:∃B:Nat,x.stop% (m.length:Int)=(B:Int)/\B<m.length:=by
      have h0:=dq x.stop (by omega:(m.length:Int)≠0);have h1:=da x.stop (by omega:(0:Int) <(m.length:Int));exact⟨(x.stop% (m.length:Int)).toNat,by omega,by omega⟩
     have c1:=A.d.cells.2.1;have hlt:=A.d.lt;obtain⟨r5,⟨ya,yn,yc,rfl,f1,o7,o5,o6⟩,a7⟩:=A.o.at iD a5;have a2:=A.ok m[B] (cW a5)
     have l5: -1000000000<=m[B].s.tg/\m[B].s.tg<=1000000000:=by
      unfold tr at a2;rw[<- mU f1]at a2;exact Ns f1.1 a2
     have k0:=a7 0 _ rfl;have o8:=a7 12 _ rfl;rw[bE]at k0
     have j1:kU m B=m[B].s.kind:=by unfold kU;rw[aI,ae a5]
     have k2:Do m B=m[B].s.tg:=by unfold Do;rw[ae a5]
     have j9:zT x=B:=by unfold zT;rw[<- e4.out,e6];exact aI B
     generalize m[B].s.kind=kd at*;generalize m[B].s.tg=th at*;have r:=O A;have c4:=O j1;have h6:=O l5;have m9:=O k2;have g8:=O j9;clear k2 j9 A f1 o7 o5 o6 a7 a2 j1 l5
     go_upto_if 45 with fail
     go_cut [] (fun wx=>∃N:List gM,N.length=m.length/\kU N B≠3/\N=zU x/\Ig w x ⟨sa,n,sc⟩ f v k (.slice (J g) m.length oc) N wx)
     case first=>
      by_cases R:kd=3
      .have d1:(kd==3)=true:=by simpa using R
       clear R;have b7:tr ⟨jB 0 th,[]⟩=true:=wA (by omega) h6.out;obtain⟨lq,t,u,E,C⟩:=r.out.q
       have d5:B<lq.length:=by rw[<- mD,t];exact a5
       have d4:=u.set jX d5 (x:=⟨⟨jB 0 th,[]⟩,wc.heap.size,wc.heap.size⟩) (cs:=gX (jB 0 th) none 0 0) ⟨none,0,0,rfl,jN.nil _ _,by omega,lD 0⟩;have f0:=gK g (gX (jB 0 th) none 0 0) (B*22) wc
       have i1:Ig w x ⟨sa,n,sc⟩ f v k (.slice (J g) m.length oc) (m.set B ⟨jB 0 th,[]⟩) (wc.setCells g (B*22) (gX (jB 0 th) none 0 0)):=
        ⟨⟨_,by rw[El,t],d4,E.set (fun j y hy _=>VR (C y (aL hy)).2),(fun q u=>by
          rw[im]
          obtain u|rfl:=bH u
          .exact C q u
          .exact⟨ag _,ag _⟩)⟩,(f0 _ (by omega)).trans r.out.d,(f0 _ (by omega)).trans r.out.z,ig (by omega) _ _ r.out.b,fun q u=>by
          obtain u|rfl:=bH u
          .exact r.out.ok q u
          .exact b7⟩
       have d2:kU (m.set B ⟨jB 0 th,[]⟩) B≠3:=by
        unfold kU;rw[aI,List.getElem?_set_self a5]
        show(1:Int)≠3
        omega
       have m1:=O i1;have f3:=O d2
       have M:m.set B ⟨jB 0 th,[]⟩=zU x:=by
        unfold zU;rw[<- e4.out,g8.out,c4.out,aq (by simpa using d1),m9.out]
       have a9:=O M;clear M;clear i1 d2 d4 f0 b7 t u E C d5
       go_wp2_with(refine pX (jB 0 th) none 0 0 (r.out.o.there a5) rfl (.tmp 54) (.tmp 53) rfl rfl rfl ?_)
       go_meet;exact⟨_,by simp,f3.out,a9.out,m1.out⟩
      .have d1:(kd==3)=false:=by simpa using R
       go_wp2;go_meet;exact⟨m,rfl,by rw[c4.out];exact R,(by unfold zU;rw[<- e4.out,g8.out,c4.out,aj R]),r.out⟩
     case rest=>
      obtain⟨N,j5,R,M,A⟩:=hcut;have a9:=O M;clear M;have d7:=O e6;clear r c4 h6 k0 o8 o1 e6 f8 f9 c1 hlt;have k1:=A.size;have hlt:=A.d.lt;have c7:=A.d.cells.2.2.2.2.2.2.2.1;have i9:=Hx.out.il;unfold qD at i9;have r:=O A;have a6:=O j5;have m7:=O R;clear A j5 R;have b3:=O (show tr ⟨jB (1000*x.il) 0,[]⟩=true from wA (by omega) (by omega));have q4:=O i9;obtain⟨lq,t,u,E,C⟩:=r.out.q;have P:=O ((mD lq).symm.trans (ai List.length t));have b2:=O t;have Hq:=O u;have b0:=O E;have b4:=O C;clear t u E C
      go_upto_region 13 with(first
       |(refine kA jX underlying34 Tryz.infoSurf3 rfl (by omega) (by omega) rfl (.tmp 55) (.tmp 61) rfl (w+2) wc _ lq ⟨⟨jB (1000*x.il) 0,[]⟩,wc.heap.size,wc.heap.size⟩ (gX (jB (1000*x.il) 0) none 0 0) N.length P.out rfl Hq.out rfl rfl ⟨none,0,0,rfl,jN.nil _ _,by omega,lD 0⟩ (by rw[P.out,a6.out];omega) (by omega) ?_;intro g3 a1 w8 T Q _ _;have D:=O (r.out.more b2.out b0.out b4.out (ag _) (ag _) (ag _) b3.out T Q);clear T Q)
       |(refine sK D.out.d.range rfl (.tmp 1) rfl rfl ?_)
       |(go_at_call 27;refine(Ie x ⟨sa,n,sc⟩ f v k _ ((Hx.out.kept (gE D.out.b) (fun b h=>h)).v.kept (gN.refl _ _) (fun b h=>eb h D.out.b.size))).mono ?_;rintro e w9 ⟨p2,W,p3,vz,rfl,k7,k5,k3,k4,k6,k8,e8⟩;have n2:=O k8;clear k8;have h4:=O k7;have n0:=O k5;have e5:=O k3;have g9:=O k4;have n1:=O k6;have b8:=O (D.out.go e8);have g1:=O e8;clear k7 k5 k3 k4 k6 e8))
      obtain⟨w5,rfl⟩:∃w5:World,w5=w9:=⟨_,rfl⟩;have b6:=b8.out;have p5:=b6.d.lt;have r4:=TK b6.z;have p8:=b6.size;obtain⟨-,-,-,c3,-,-,c6,-,-⟩:=b6.d.cells;have o2:=Hx.out.pb;have j8:=Hx.out.p9;unfold og at o2 j8;have u0:IntKind.i64.wrap x.pb=x.pb:=TM _ (by omega);have u1:IntKind.i64.wrap (1+x.pb)=1+x.pb:=TM _ (by omega);have u2:IntKind.i64.wrap (100000*(1+x.pb))=100000*(1+x.pb):=TM _ (by omega);have u3:IntKind.i64.wrap x.p9=x.p9:=TM _ (by omega)
      have r3:¬W=0:=by have:=e5.out;omega
      have j7:0<=x.p9.tmod W/\x.p9.tmod W<W:=by
       have h1:=e5.out;rw[bu j8.1];exact⟨dq _ (by omega),da _ (by omega)⟩
      have g7:=O j7;clear b6 j7 c7;refine jw (w+1) [0,2,3,4,5,6,7,8,9,10,11,12,13,14,16,17,18,19] 5 (by kernel_rfl) rfl (by kernel_rfl) (by kernel_rfl) (fun _ _ o _ _ h=>by cases o<;>exact h) ?_;have c2:=O (show∀y:World,Below (w+1) w5.drew y->oU y w x ⟨sa,n,sc⟩ f v k from fun y hy=>(hy.block w (dk _)).trans b8.out.d);refine rB rfl (by rfl) c2.out _ rfl rfl ?_;try simp only[V]
      iterate 12
       refine jW (v:=?_) rfl (by rfl) ?_ ?_;rotate_left
       .intro y hy
        have z3:=(hy.cell (p:=⟨w.heap.size,3,none⟩) (dk _)).trans c3;have z6:=(hy.cell (p:=⟨w.heap.size,6,none⟩) (dk _)).trans c6;go_simp;with_reducible rfl
       try simp only[V]
      refine rB rfl (by rfl) c2.out _ rfl rfl ?_;try simp only[V]
      iterate 2
       refine jW (v:=?_) rfl (by rfl) ?_ ?_;rotate_left
       .intro y hy
        go_simp;with_reducible rfl
       try simp only[V]
      refine rB rfl (by rfl) c2.out _ rfl rfl ?_;try simp only[V]
      iterate 1
       refine jW (v:=?_) rfl (by rfl) ?_ ?_;rotate_left
       .intro y hy
        go_simp;with_reducible rfl
       try simp only[V]
      refine mB ?_;clear c3 c6 u0 u1 u2 u3 c2;have o0:Below w5 w5 w5.drew:=jA (TH _ _);refine ia (i:=1) (fun K H=>?_);go_simp;refine(JB x ⟨sa,n,sc⟩ f v k _ Hx.out.far).mono ?_;rintro e wa ⟨rfl,e9⟩;refine H _ _ (e9.mono (by show w.heap.size+1<=w5.heap.size;omega)) ?_;clear H K;(try simp only[V]);have F:Below w5 w5 wa:=gJ (k:=1) e9;have r0:=F.size;clear e9 o0;have b9:=O (b8.out.go F);have h2:=O (h4.out.kept ((gE F).mono (fun b h=>h.2)) (fun b h=>(⟨h.1,eb h.2 F.size⟩:w8.heap.size<=b/\b<wa.heap.size)));have d8:=O (g1.out.trans (F.mono g1.out.size));clear b8 h4 F;refine ia (i:=15) (fun K H=>?_);go_simp;refine(Fa x ⟨sa,n,sc⟩ f v k wa ((Hx.out.kept (gE b9.out.b) (fun b h=>h)).f.kept (gN.refl _ _) (fun b h=>eb h b9.out.b.size)) Hx.out.far).mono ?_;rintro e wb ⟨n8,h8,n9,fz,rfl,i7,i5,i3,i4,i6,a3⟩;refine H _ _ (a3.mono (by omega)) ?_;clear H K;(try simp only[V]);have r1:=a3.size;have b1:=O (b9.out.go a3);have h3:=O (h2.out.kept ((gE a3).mono (fun b h=>h.2)) (fun b h=>(⟨h.1,eb h.2 a3.size⟩:w8.heap.size<=b/\b<wb.heap.size)));have d9:=O (d8.out.trans (a3.mono d8.out.size));have g4:=O i7;have m4:=O i5;have m3:=O i3;have g2:=O i4;have m5:=O i6;clear b9 h2 a3 i7 i5 i3 i4 i6;refine ia (i:=20) (fun K H=>?_);go_simp
      have q8:(N++[(⟨jB (1000*x.il) 0,[]⟩:gM)]).length=N.length+1:=by rw[al];rfl
      refine(Zp x ⟨sa,n,sc⟩ f v k (N++[⟨jB (1000*x.il) 0,[]⟩]) _ (N.length+1) a1 wb ((Hx.out.kept (gE b1.out.b) (fun b h=>h)).k.kept Id (gN.refl _ _) (fun b h=>eb h b1.out.b.size)) (b1.out.o.rr iD) (by omega) (by rw[a6.out];omega)).mono ?_;rintro e d6 ⟨o9,l7,p0,cf,rfl,j3,j2,c8,L⟩;refine H _ _ (L.mono (by omega)) ?_;clear H K;(try simp only[V]);have r2:=L.size;have e0:=O (b1.out.go L);have a0:=O (h3.out.kept ((gE L).mono (fun b h=>h.2)) (fun b h=>(⟨h.1,eb h.2 L.size⟩:w8.heap.size<=b/\b<d6.heap.size)));have a8:=O (g4.out.kept ((gE L).mono (fun b h=>h.2)) (fun b h=>(⟨by have:=h.1;have:=d8.out.size;omega,eb h.2 L.size⟩:w8.heap.size<=b/\b<d6.heap.size)));have l8:=O (d9.out.trans (L.mono d9.out.size));have f2:=O c8;clear c8;have g5:=O j3;have m8:=O j2;clear b1 h3 g4 L j3 j2;refine ia (i:=21) (fun K H=>?_);go_simp;refine H _ _ (TH _ _) ?_;clear H K;(try simp only[V]);refine mm (i:=22) (fun K H=>?_);refine ja ⟨⟨#[100,114,97,102,116]⟩,uP x,100000*(1+x.pb),x.stop% (m.length:Int),x.p9.tmod W,fz,vz,N++[⟨jB (1000*x.il) 0,[]⟩],cf⟩ ⟨n8,h8,n9⟩ ⟨p2,W,p3⟩ ⟨some ⟨g3,0,none⟩,N.length+1,a1⟩ ⟨o9,l7,p0⟩ e0.out.z rfl rfl (.tmp 2) (.tmp 86) rfl rfl rfl ?_;intro w7 h7 e7;refine H _ _ (by rw[e7];exact ig (ag _) _ _ (TH _ _)) ?_;clear H K;have H7:=O h7;have E7:=O e7;clear h7 e7;refine lH (by kernel_rfl) ?_;(try simp only[V]);go_wp2_with fail;refine ar (Fe rfl rfl H7.out) rfl ?_
      have S:gN (fun b=>b≠w.heap.size+1) d6 w7:=by rw[E7.out];exact gK _ _ _ _
      have a4:w7.heap.size=d6.heap.size:=by rw[E7.out,im]
      have f4:=D.out.ok;have p6:=D.out.size;have p7:=d9.out.size;obtain⟨p1,f7,o3,f5,g0⟩:=D.out.q;refine⟨_,_,_,_,_,rfl,⟨⟨?_,?_,?_,?_,?_,?_,?_,?_,m4.out,n0.out,(by decide:(ByteArray.mk #[100,114,97,102,116]).size<=9223372036854775807)⟩,⟨p1,0,w8.heap.size,f7,(((o3.go jX l8.out).keep jX (S.mono (fun b h=>by have:=h.1;omega)) (by omega)).rro jX).kept (BT jX _) (gN.refl _ _) (fun b h=>⟨by have:=h.1;omega,h.2⟩),f5,(fun q u=>⟨aA _,g0 q u⟩),?_,?_,?_⟩⟩,?_,(by show _=Dp x;unfold Dp;rw[<- a9.out]),rfl,rfl,(by rw[<- qW a0.out];exact n2.out),?_⟩
      .exact a8.out.kept (S.mono (fun b h=>by have:=h.1;omega)) (fun b h=>⟨by have:=h.1;omega,by rw[a4];exact h.2⟩)
      .exact a0.out.kept (S.mono (fun b h=>by have:=h.1;omega)) (fun b h=>⟨by have:=h.1;omega,by rw[a4];exact h.2⟩)
      .exact(jD.rr2 iD e0.out.o).kept iD (S.mono (fun b h=>by omega)) (fun b h=>⟨by have:=h.1;omega,by rw[a4];exact h.2⟩)
      .exact g5.out.kept ky (S.mono (fun b h=>by have:=h.1;omega)) (fun b h=>⟨by have:=h.1;omega,by rw[a4];exact h.2⟩)
      .show h8<=1000000;have:=g2.out;omega
      .show W<=1000000;have:=g9.out;omega
      .show N.length+1<=1000000;have:=a6.out;omega
      .show l7<=1000000;have:=m8.out;omega
      .exact a8.out.kept (S.mono (fun b h=>by have:=h.1;omega)) (fun b h=>⟨⟨by have:=h.1;omega,by rw[a4];exact h.2⟩,VS h.1⟩)
      .exact a0.out.kept (S.mono (fun b h=>by have:=h.1;omega)) (fun b h=>⟨⟨by have:=h.1;omega,by rw[a4];exact h.2⟩,VS h.1⟩)
      .exact g5.out.kept ky (S.mono (fun b h=>by have:=h.1;omega)) (fun b h=>⟨⟨by have:=h.1;omega,by rw[a4];exact h.2⟩,VS (by have:=h.1;omega)⟩)
      .refine Nu Fc (yJ Hx.out.far) ⟨by show 1<=100000*(1+x.pb);omega,by show 100000*(1+x.pb)<=1000000000;omega⟩ ?_ ?_ ?_ f2.out
       .show jx (uP x) fz (fz.length/2)=true
        rw[<- qW a8.out];exact PN m3.out g2.out m5.out
       .show VY (x.p9.tmod W) vz (vz.length/2)=true
        rw[<- qW a0.out];exact PM e5.out g9.out n1.out g7.out.1 g7.out.2
       .exact Nt (by rw[a6.out];exact h1) (by rw[a6.out];exact h5) (fun q u=>f4 q (List.mem_append_left _ u)) (by omega) (by show 0<=x.stop% (m.length:Int);rw[d7.out];omega) (by show x.stop% (m.length:Int) <_;rw[d7.out,a6.out];omega) (by show kU N (x.stop% (m.length:Int))≠3;rw[d7.out];exact m7.out)
      .rw[E7.out];exact ig (bY _) _ _ e0.out.b
section
variable{P:Program}{H:Type}{enc:TypeId×Value->H}{w:World}{base:Nat}{sp:Nat->Bool}{held:Bool}{t e:TypeId}{cs:List Value}
def Rd(enc:TypeId×Value->H)(P:Program)(w:World)(base:Nat)(b:Nat->Bool)(a:Bool)(t:TypeId)(cs:List Value):Prop:=∃fuel x,DataW.trod enc P w base b a fuel t cs=some x
def xz{k:IntKind}(a:P.underlying t=some (.int k))(h:Rd enc P w base sp held t cs):∃n,cs=[.int k n]/\k.min<=n/\n<=k.max:=by
 obtain⟨fuel,x,h⟩:=h;obtain⟨n,rfl,_,hw⟩:=DataW.trod_int a h;exact⟨n,rfl,by simpa[Lit.wf]using hw⟩
def DY{fs:Array Field}(b:P.underlying t=some (.struct fs))(h:Rd enc P w base sp held t cs):cs.length=P.cellsOf t:=by
 obtain⟨fuel,x,h⟩:=h;obtain⟨_,_,_,_,a,_⟩:=DataW.trod_struct b h;exact a
def iO{fs:Array Field}{ty off n:Nat}(e:P.underlying t=some (.struct fs))(h:Rd enc P w base sp held t cs)(i:Nat)(hf:(fs[i]?).map (fun f=>(f.type,f.offset))=some (ty,off))(d:P.cellsOf ty=n):
 Rd enc P w base sp held ty ((cs.drop off).take n):=by
 obtain⟨fuel,x,h⟩:=h;obtain⟨xs,m,_,_,j,g,c⟩:=DataW.trod_struct e h;obtain⟨f,a,b⟩:=gj.1 hf;cases b;have:=c i f a
 have hi:i<xs.length:=by
  rw[g];exact(cu.1 a).1
 rw[ae hi,d]at this;exact⟨m,_,this⟩
def OU{k:IntKind}{n:Nat}(f:P.underlying t=some (.array n e))(d:P.underlying e=some (.int k))(a:P.cellsOf e=1)(g:P.cellsOf t=n)(h:Rd enc P w base sp held t cs):
 ∀i,i<n-> ∃z,cs[i]? =some (.int k z)/\k.min<=z/\z<=k.max:=by
 obtain⟨fuel,x,h⟩:=h;obtain⟨xs,m,_,_,j,l,b⟩:=DataW.trod_array f h;intro i hi;have h1:=b i hi;rw[a,dn,ae (by omega)]at h1;obtain⟨z,c,h2⟩:=xz d ⟨m,_,h1⟩;refine⟨z,?_,h2⟩
 have:((cs.drop i).take 1)[0]? =some (.int k z):=by rw[c];rfl
 rw[cZ,aq (by omega),cp,bE]at this;exact this
def Mu{a:Addr}{v:Value}(h:w.cell? a=some v):a=⟨a.block,a.off,none⟩/\a.block<w.heap.size:=by
 unfold World.cell? at h;split at h
 .rename_i c _ _ hb
  split at h
  .cases h
  .rename_i hs
   refine⟨?_,TK hb⟩;obtain⟨b,o,s⟩:=a
   cases s with
   |none=>rfl
   |some s=>simp at hs
 .cases h
def Gg{m:Nat}(K:P.underlying t=some (.slice e))(F:P.cellsOf e=m)(h0:0<m)(h:Rd enc P w base sp held t cs):
 ∃a n c,cs=[.slice a n c]/\(a=none->n=0/\c=0)/\n<=c/\
  (0<n-> ∃b off,a=some ⟨b,off,none⟩/\b<w.heap.size/\ ∀i,i<n-> ∃d,d.length=m/\Rd enc P w base sp held e d/\w.rangeAt b (off+i*m) d):=by
 obtain⟨fuel,x,h⟩:=h
 obtain ⟨rfl,_⟩|⟨a,len,cap,p,B,n,_,rfl,_,hb,E,M,A,u,_,_⟩:=DataW.trod_slice K h
 .exact⟨none,0,0,rfl,fun _=>⟨rfl,rfl⟩,ag _,fun h=>absurd h (by omega)⟩
 .refine⟨some a,len,cap,rfl,fun e=>by(exact absurd e (by simp)),E,fun o=>?_⟩
  have k:∀i,i<len-> ∃d,w.cells? base (a.add (i*m)) m=some d/\Rd enc P w base sp held e d:=by
   intro i hi;have h1:=u i hi;rw[ae (by omega),F]at h1;obtain⟨d,h2,h3⟩:=Option.bind_eq_some_iff.1 h1;exact⟨d,h2,n,_,h3⟩
  obtain⟨L,s,_⟩:=k 0 o;obtain⟨_,N,g⟩:=World.cells?_some s;have f:=g 0 h0;rw[ae (by omega)]at f;rw[eB]at f
  have r:(a.add 0).add 0=a:=by simp[Addr.add]
  rw[r]at f;obtain⟨q,hlt⟩:=Mu f;refine⟨a.block,a.off,by rw[<- q],hlt,fun i hi=>?_⟩;obtain⟨d,C,H⟩:=k i hi;obtain⟨_,y,l⟩:=World.cells?_some C;refine⟨d,y,H,fun j v z=>?_⟩
  have D:j<m:=by have:=(TG.1 z).1;omega
  have:=l j D;rw[z]at this;rw[<- this];rw[q,fC,fC]
def DZ{α:Type}{p:Nat->α->Prop}:∀n:Nat,(∀i,i<n-> ∃x,p i x)-> ∃l:List α,l.length=n/\ ∀i x,l[i]? =some x->p i x
 |0,_=>⟨[],rfl,fun i x h=>by simp at h⟩
 |n+1,h=>by
  obtain⟨l,b,c⟩:=DZ n (fun i hi=>h i (by omega));obtain⟨x,d⟩:=h n (by omega);refine⟨l++[x],by simp[b],fun i y a=>?_⟩;by_cases hi:i<n
  .rw[aF (by omega)]at a
   exact c i y a
  .rw[aY (by omega)]at a
   have:i=n:=by
    have:=(TG.1 a).1;simp at this;omega
   subst this;rw[b,eC]at a;cases a;exact d
def I9{α:Type}{R:pB α}{m:Nat}(u:P.underlying t=some (.slice e))(r:P.cellsOf e=m)(h0:0<m)(o:∀d,d.length=m->Rd enc P w base sp held e d-> ∃x,R (fun b=>b<w.heap.size) w x d)(h:Rd enc P w base sp held t cs):
 ∃(p:iJ)(l:List α),cs=[.slice p.a p.n p.c]/\RR R m (fun b=>b<w.heap.size) w p.a p.n p.c l:=by
 obtain⟨a,n,c,rfl,y,k,f⟩:=Gg u r h0 h;by_cases j:0<n
 .obtain⟨b,off,rfl,hlt,g⟩:=f j
  obtain⟨l,q,s⟩:=DZ (p:=fun i x=>∃d,R (fun b=>b<w.heap.size) w x d/\w.rangeAt b (off+i*m) d) n (fun i hi=>by
   obtain⟨d,h1,h2,h3⟩:=g i hi;obtain⟨x,v⟩:=o d h1 h2
   exact⟨x,d,v,h3⟩)
  exact⟨⟨some ⟨b,off,none⟩,n,c⟩,l,rfl,q,k,fun _=>⟨b,off,rfl,hlt,s⟩⟩
 .obtain rfl:n=0:=by omega
  exact⟨⟨a,0,c⟩,[],rfl,RR.nil _ _ _ _ _ _⟩
def AQ(A:P.underlying t=some (.slice e))(s:P.underlying e=some (.int .u8))(v:P.cellsOf e=1)(h:Rd enc P w base sp held t cs):
 ∃(p:iJ)(zs:List Int),cs=[.slice p.a p.n p.c]/\BR (fun b=>b<w.heap.size) w p.a p.n p.c zs:=by
 obtain⟨a,n,c,rfl,C,g,f⟩:=Gg A v (by omega) h;by_cases o:0<n
 .obtain⟨b,off,rfl,hlt,k⟩:=f o
  obtain⟨l,u,y⟩:=DZ (p:=fun i (x:Int)=>w.cell? ⟨b,off+i,none⟩=some (.int .u8 x)/\0<=x/\x<=255) n (fun i hi=>by
   obtain⟨B,h1,h2,h3⟩:=k i hi;obtain⟨z,rfl,q,r⟩:=xz s h2;have:=h3 0 _ rfl;rw[dn,bE]at this;refine⟨z,this,?_,?_⟩
   .simpa[IntKind.min,IntKind.signed,IntKind.bits]using q
   .simpa[IntKind.max,IntKind.signed,IntKind.bits]using r)
  refine⟨⟨some ⟨b,off,none⟩,n,c⟩,l,rfl,u,g,fun j d=>⟨b,off,rfl,hlt,?_⟩⟩;have d:j<n:=d
  have m:l[j]? =some (l.getD j 0):=by rw[ah,ae (by omega)];rfl
  exact y j _ m
 .obtain rfl:n=0:=by omega
  exact⟨⟨a,0,c⟩,[],rfl,rfl,g,fun j d=>absurd (show j<0 from d) (by omega)⟩
end
def Rt(w:World)(e:Ending)(w':World):Prop:=
 ∃y f v s k p,e=.returned (If y f v s k p)/\mj (fun b=>w.heap.size<=b/\b<w'.heap.size) w' y f v s k/\iI y=true/\y.cf=[]/\Below w w w'
def qd(x:rz)(c:Int)(s f v k:iJ):List Value:=[.slice s.a s.n s.c,.int .u8 x.stop,.int .u16 x.far,.int .u8 x.pb,.slice f.a f.n f.c,.slice v.a v.n v.c,.int .u8 x.p9,.int .i16 x.il,.slice k.a k.n k.c,.int .u8 c]
def Fh(x:rz)(c:Int)(s f v k:iJ):Value:=.agg #[Z s.a s.n s.c,.int .u8 x.stop,.int .u16 x.far,.int .u8 x.pb,Z f.a f.n f.c,Z v.a v.n v.c,.int .u8 x.p9,.int .i16 x.il,Z k.a k.n k.c,.int .u8 c]
def Sj(w:World)(g:Nat)(x:rz)(c:Int)(s f v k:iJ):Prop:=w.heap[g]? =some (.cells (qd x c s f v k).toArray 30 (0,0))
def Sj.range{w:World}{g:Nat}{x:rz}{c:Int}{s f v k:iJ}(h:Sj w g x c s f v k):w.rangeAt g 0 (lI x s f v k):=by
 intro j u a;rw[VV h];unfold lI at a;have b:j<9:=(TG.1 a).1;rw[aV,bo]
 match j,b with
 |0,_=>exact a
 |1,_=>exact a
 |2,_=>exact a
 |3,_=>exact a
 |4,_=>exact a
 |5,_=>exact a
 |6,_=>exact a
 |7,_=>exact a
 |8,_=>exact a
def Ru{n:Nat}{c:Int}(h0:0<=c): -1<=c.tmod ((n:Int)+1)-1/\c.tmod ((n:Int)+1)-1<(n:Int):=by
 have h1:=dq c (by omega:(n:Int)+1≠0);have h2:=da c (by omega:0<(n:Int)+1);rw[bu h0];omega
def zW(x:rz)(c:Int)(s f v k:iJ)(w:World)(hx:xU (fun b=>b<w.heap.size) w x s f v k)(hc:og c):
 Calls prog 4 #[Fh x c s f v k] w (Rt w):=by
 have Hx:=O hx;clear hx;obtain⟨e1,e2⟩:=iN w (.cells (qd x c s f v k).toArray 30) (.cells #[ik,oZ,oZ,oZ,oZ,oN,oN,oN,oN,oN] 40);have u:=O (iH (w:=w) (.cells (qd x c s f v k).toArray 30) (.cells #[ik,oZ,oZ,oZ,oZ,oN,oN,oN,oN,oN] 40));have E1:=O e1;have E2:=O e2;clear e1 e2;unfold Fh;go_enter func4,ntmps4;go_upto_region 1 with fail;refine gI (fun Q=>Sj Q w x c s f v k/\Q.heap[w.heap.size+1]? =some (.cells #[ik,oZ,oZ,oZ,oZ,oN,oN,oN,oN,oN] 40 (0,0))/\Below w w Q) ⟨E1,E2,u⟩ ?_;clear E1 E2 u;rintro w1 ⟨h1,h2,hb⟩;have b4:=TK h1;have b5:=TK h2;have H1:=O h1;have H2:=O h2;have u:=O hb;clear h1 h2 hb
 go_wp2_with(refine sK H1.range rfl (.tmp 6) rfl rfl ?_)
 refine(K6 x s f v k w1 (Hx.kept (gE u) (fun b h=>eb h u.size))).mono ?_;rintro e a ⟨t,yf,yv,ys,i,X,g,N,hl,-,-,b9,q⟩;unfold jG at X;subst X
 have hgl:qF t.l:=by rw[hl];exact Ii x
 have a4:=O ((q.block _ b4).trans H1);have a5:=O ((q.block _ b5).trans H2);have b6:=q.size;have Hy:=O g;have j:=O N;have d6:=O b9;have d4:=O hgl;have d2:=O (I u q);clear g N b9 hgl hl q H1 H2;go_upto_region 2 with fail;refine gI (fun Q=>kr Q a 37 t yf yv ys i/\Below a a Q) ⟨TL a _,gY (TH _ _)⟩ ?_;rintro z ⟨h3,r⟩;obtain⟨c0,c1,c2,c3,c4,c5,c6,c7,c8⟩:=h3.cells;have d:=h3.lt;have b7:=r.size;have g9:z.cell? ⟨w.heap.size,9,none⟩=some (.int .u8 c):=(VV ((r.block _ (eb b4 b6)).trans a4) 9).trans rfl
 have e3:w.heap.size<z.heap.size:=by omega
 have d0:=O ((r.block _ (eb b5 b6)).trans a5);have a1:t.cf.length=i.n:=Hy.at'.cf.1;have f3:i.n<=1000000:=Hy.at'.kn;have H3:=O h3;have a7:=O r;clear h3 r a4 a5;unfold og at hc;have u1:IntKind.i64.wrap c=c:=TM _ (by omega);have M:=Ru (n:=i.n) hc.1;have u2:IntKind.i64.wrap ((i.n:Int)+1)=(i.n:Int)+1:=TM _ (by omega)
 have u3:¬(i.n:Int)+1=0:=by omega
 have u4:IntKind.i64.wrap (c.tmod ((i.n:Int)+1)-1)=c.tmod ((i.n:Int)+1)-1:=TM _ (by omega);refine ic 16 [14] [(15,4,.cells #[ik,oZ,oZ,oZ,oZ,oN,oN,oN,oN,oN] 40)] [(0,true),(2,true),(3,true),(4,true),(5,true),(6,true),(7,true),(8,true),(9,true),(10,true),(1,false),(11,false),(12,true),(13,true),(14,true)] (by kernel_rfl) (by kernel_rfl) ⟨by simp,by simp,by(simp only[ct];exact⟨⟨by omega,_,rfl,rfl,rfl,fun _ _=>rfl⟩,fun _ h=>by cases h⟩)⟩ (fun _ _ _ _ _ h=>h) (fun _ _ o _ _ h=>by cases o<;>exact h) ?_
 iterate 10
  refine gZ (v:=?_) ?_ ?_;rotate_left
  .intro y g
   have y0:=(g.cell (p:=J (a.heap.size)) d).trans c0;have y1:=(g.cell (p:=⟨a.heap.size,1,none⟩) d).trans c1;have y2:=(g.cell (p:=⟨a.heap.size,2,none⟩) d).trans c2;have y3:=(g.cell (p:=⟨a.heap.size,3,none⟩) d).trans c3;have y4:=(g.cell (p:=⟨a.heap.size,4,none⟩) d).trans c4;have y5:=(g.cell (p:=⟨a.heap.size,5,none⟩) d).trans c5;have y6:=(g.cell (p:=⟨a.heap.size,6,none⟩) d).trans c6;have y7:=(g.cell (p:=⟨a.heap.size,7,none⟩) d).trans c7;have y8:=(g.cell (p:=⟨a.heap.size,8,none⟩) d).trans c8;have y9:=(g.cell (p:=⟨w.heap.size,9,none⟩) e3).trans g9;go_simp;with_reducible rfl
  try simp only[V]
 clear c0 c1 c2 c3 c4 c5 c6 c7 c8 g9 u1 u2 u3 u4;generalize c.tmod ((i.n:Int)+1)-1=ci at*;refine iK (fun xa c9 K S=>?_);go_simp;refine(Bk xa).mono ?_;rintro e wa ⟨ga,gc,rfl,b3,T⟩;refine S _ _ T ?_;clear S K;(try simp only[V]);have a2:=gJ (k:=1) c9;have a8:=O (a2.trans (T.mono a2.size));have d3:=O b3;clear b3 c9 a2 T;refine iK (fun xb P K S=>?_);go_simp;have F:=a8.trans (P.mono a8.size);have D:=a7.trans (F.mono b7);refine(Np t yf yv ys i xb (fun b=>w1.heap.size<=b/\b<a.heap.size) (fun b h=>eb h.2 D.size) ci ga gc (Hy.go D (fun b h=>h.2) (fun b h=>h)) j M.1 (by rw[a1];exact M.2) ((d3.kept wl (gE P|>.mono (fun b h=>h.2)) (fun b h=>eb h.2 P.size))) d6 (KY d4 j (by rw[a1];exact M.2))).mono ?_;rintro e wb ⟨zf,zv,zs,zk,zp,e9,X,hz,e8,e7,W⟩;unfold If at X;subst X;refine S _ _ W ?_;clear S K;(try simp only[V]);have B:=O (F.trans (W.mono F.size));have Hz:=O hz;have Hs:=O D.size;have e4:=O (KZ j (show ci<(t.cf.length:Int)by rw[a1];exact M.2));clear hz e8 e7 F D P W
 iterate 2
  refine gZ (v:=?_) ?_ ?_;rotate_left
  .intro y g
   skip;go_simp;with_reducible rfl
  try simp only[V]
 iterate 1
  refine iy (v:=?_) ?_ ?_;rotate_left
  .intro y
   go_simp;with_reducible rfl
  try simp only[V]
 refine nV (l:=[_,_]) rfl (fun g4 w4 hC L b2=>?_);(try simp only[V]);have m:=B.trans (L.mono B.size);have d9:z.heap.size<=g4:=hC.1.1;have f2:g4<xb.heap.size\/wb.heap.size<=g4:=hC.2;have b0:=(m.block _ (by show w.heap.size+1<z.heap.size;omega)).trans d0;have a9:=O (Hz.keep (E:=fun b=>(w1.heap.size<=b/\b<a.heap.size)\/(xb.heap.size<=b/\b<wb.heap.size)) ((gE L).mono (fun b h=>by have:=B.size;obtain h|h:=h;have:=h.2;omega;exact h.2)) (fun b h=>h));have f4:=L.size;have a6:=O b0;have A:=O m;clear b0 m L hC Hz
 go_upto_region 3 with(refine rA (TR t ci) zf zv zs zk zp b2 rfl rfl (.tmp 4) (.tmp 22) rfl rfl rfl ?_;intro w5 h5 e5;have H5:=O h5;have C:=O e5;clear h5 e5)
 have a0:gN (fun b=>b≠g4) w4 w5:=by rw[C];exact gK _ _ _ _
 have b8:w5.heap.size=w4.heap.size:=by rw[C,im]
 have b1:=(a0 _ (by omega)).trans a6
 have H:Below z z w5:=by rw[C];exact ig d9 _ _ A
 have d7:=O (a9.keep (E:=fun b=>(w1.heap.size<=b/\b<a.heap.size)\/(xb.heap.size<=b/\b<wb.heap.size)) (a0.mono (fun b h=>by obtain h|h:=h;have:=h.2;omega;have:=h.1;have:=h.2;omega)) (fun b h=>h));have d1:=O b1;have a3:=O H;have d5:=O b8;clear a0 b8 b1 H a9 a6 A b2 C
 go_wp2_with(first
  |(refine ww H5 rfl (.tmp 4) rfl rfl ?_)
  |(refine rA (TR t ci) zf zv zs zk zp d1 rfl rfl (.tmp 2) (.tmp 24) rfl rfl rfl ?_;intro w6 h6 e6;have H6:=O h6;have R:=O e6;clear h6 e6))
 refine ar (PI rfl rfl H6) rfl ?_
 have e0:gN (fun b=>b≠w.heap.size+1) w5 w6:=by rw[R];exact gK _ _ _ _
 have f5:w6.heap.size=w5.heap.size:=by rw[R,im]
 have d8:Below w w w6:=by rw[R];exact ig (bY _) _ _ (I d2 (a7.trans (a3.mono b7)))
 refine⟨TR t ci,zf,zv,zs,zk,zp,rfl,?_,e4,rfl,d8⟩;have f6:=Hs.out;have f0:=d5.out;have f1:z.heap.size<=wb.heap.size:=B.size;exact d7.keep (e0.mono (fun b h=>by obtain h|h:=h;have:=h.1;omega;have:=h.1;omega)) (fun b h=>by obtain h|h:=h<;>exact⟨by have:=h.1;have:=u.size;omega,by have:=h.2;omega⟩)
def Nw(n:Nat->Int):Value:=.agg #[.int .u8 (n 0),.int .u8 (n 1),.int .u8 (n 2),.int .u8 (n 3),.int .u8 (n 4),.int .u8 (n 5),.int .u8 (n 6),.int .u8 (n 7)]
def Ik(w:World)(g:Nat)(n:Nat->Int):Prop:=w.heap[g]? =some (.cells #[.int .u8 (n 0),.int .u8 (n 1),.int .u8 (n 2),.int .u8 (n 3),.int .u8 (n 4),.int .u8 (n 5),.int .u8 (n 6),.int .u8 (n 7)] 31 (0,0))
def Ik.cells{w:World}{g:Nat}{n:Nat->Int}(h:Ik w g n):w.cell? (J g)=some (.int .u8 (n 0))/\w.cell? ⟨g,1,none⟩=some (.int .u8 (n 1))/\w.cell? ⟨g,2,none⟩=some (.int .u8 (n 2))/\w.cell? ⟨g,3,none⟩=some (.int .u8 (n 3))/\w.cell? ⟨g,4,none⟩=some (.int .u8 (n 4))/\w.cell? ⟨g,5,none⟩=some (.int .u8 (n 5))/\w.cell? ⟨g,6,none⟩=some (.int .u8 (n 6))/\w.cell? ⟨g,7,none⟩=some (.int .u8 (n 7)):=
 ⟨(VV h 0).trans rfl,(VV h 1).trans rfl,(VV h 2).trans rfl,(VV h 3).trans rfl,(VV h 4).trans rfl,(VV h 5).trans rfl,(VV h 6).trans rfl,(VV h 7).trans rfl⟩
def Rv{y:gR}{D:Nat->Prop}{w:World}{f v s k:iJ}(b:iI y=true)(h:iP D w y f v s k):2<=s.n/\s.n<=16:=by
 have a:jO y 4=true:=an.1 b 4 (by decide);have h5:iW y.stop y.l=true:=a;unfold iW at h5;simp only[am]at h5;have:=h5.1.1.1.1;rw[h.l.1]at this;unfold bt at this;simp at this;omega
def Rw(D:Nat->Prop)(w:World)(y:gR)(f v s k:iJ)(e:Ending)(w':World):Prop:=
 ∃z a d zs c,e=.returned (jG z a d zs c)/\iP (fun b=>D b\/(w.heap.size<=b/\b<w'.heap.size)) w' z a d zs c/\iI z=true/\iP D w' y f v s k/\Ez D w w'
structure wB (D:Nat->Prop) (w:World) (y:gR) (f v s k:iJ) (n:Nat->Int) (g5 g14 c14 kk:Nat) (ca:Option Addr) (cn cc:Nat) (wx:World):Prop where
 l1:kr wx w 37 y f v s k
 arr:Ik wx (w+1) n
 z:wx.heap[w.heap.size+2]? =some (.cells #[ik,oZ,oZ,oZ,oZ,oN,oN,oN,oN] 37 (0,0))
 l5:kr wx g5 37 y f v ⟨some ⟨g14,0,none⟩,s.n,c14⟩ k
 row:A8 jE 22 58 (wX D ca cn cc) kk wx (.slice (J g14) s.n c14) y.l
 h5:w.heap.size+2<g5
 h14:g5<g14
 hlt:g14<wx.heap.size
 dl:∀b,D b->b<w.heap.size
 own:∀g,(Value.slice ca cn cc).ownBlock=some g->D g
 kept:gN (wX D ca cn cc) w wx
 cells:∀g,(Value.slice ca cn cc).ownBlock=some g-> ∀j,j<cn*3->wx.cell? ⟨g,j,none⟩=w.cell? ⟨g,j,none⟩
 quiet:Ez D w wx
section
variable{D:Nat->Prop}{w:World}{y:gR}{f v s k:iJ}{n:Nat->Int}{g5 g14 c14 kk:Nat}{ca:Option Addr}{cn cc:Nat}{wx wy:World}
def wB.go(h:wB D w y f v s k n g5 g14 c14 kk ca cn cc wx)(d:gN (fun b=>b<=g14/\(Value.slice ca cn cc).ownBlock≠some b) wx wy)(o:∀g,(Value.slice ca cn cc).ownBlock=some g-> ∀j,j<cn*3->wy.cell? ⟨g,j,none⟩=wx.cell? ⟨g,j,none⟩)(p:wy.os=wx.os)(r:wy.tape=wx.tape)(t:wy.output=wx.output)(q:wx.heap.size<=wy.heap.size):
 wB D w y f v s k n g5 g14 c14 kk ca cn cc wy:=by
 have h5:=h.h5;have h14:=h.h14;have hlt:=h.hlt
 have m:∀b,w.heap.size<=b->(Value.slice ca cn cc).ownBlock≠some b:=fun b hb e=>by
  have:=h.dl b (h.own b e);omega
 have a:∀b,w.heap.size<=b->b<=g14->wy.heap[b]? =wx.heap[b]? :=fun b h1 h2=>d b ⟨h2,m b h1⟩
 have c:gN (wX D ca cn cc) wx wy:=d.mono (fun b hb=>⟨by have:=h.dl b hb.1;omega,hb.2⟩);refine⟨(a _ (ag _) (by omega)).trans h.l1,(a _ (by omega) (by omega)).trans h.arr,(a _ (by omega) (by omega)).trans h.z,(a _ (by omega) (by omega)).trans h.l5,h.row.keep iD ?_ (fun b hb=>hb),h.h5,h.h14,by omega,h.dl,h.own,h.kept.trans c,fun g i j l=>(o g i j l).trans (h.cells g i j l),?_⟩
 .intro b hb
  obtain hb|hb:=hb
  .exact c b hb
  .have e:g14=b:=by simpa[Value.ownBlock]using hb
   exact a b (by omega) (by omega)
 .exact⟨p.trans h.quiet.os,r.trans h.quiet.tape,t.trans h.quiet.output,af h.quiet.size q,h.quiet.kept.trans (d.mono (fun b hb=>⟨by omega,fun e=>hb.2 (h.own b e)⟩))⟩
def wB.below(h:wB D w y f v s k n g5 g14 c14 kk ca cn cc wx){B:Nat}(c:g14<B)(hb:Below B wx wy):wB D w y f v s k n g5 g14 c14 kk ca cn cc wy:=by
 have h5:=h.h5;have h14:=h.h14;exact h.go ((gE hb).mono (fun b h=>by omega)) (fun g a j _=>hb.cell (p:=⟨g,j,none⟩) (by have:=h.dl g (h.own g a);show g<B;omega)) hb.os hb.tape hb.output hb.size
def wB.set(h:wB D w y f v s k n g5 g14 c14 kk ca cn cc wx){a:Nat}(b:g14<a)(o:Nat)(u:Value):wB D w y f v s k n g5 g14 c14 kk ca cn cc (wx.setCell ⟨a,o,none⟩ u):=
 h.below b ((TH _ _).setCell (p:=⟨a,o,none⟩) (ag _) u)
structure zX (D:Nat->Prop) (w:World) (y:gR) (f v s k:iJ) (n:Nat->Int) (g5 g14 c14 kk:Nat) (ca:Option Addr) (cn cc:Nat) (wx:World):Prop where
 s:wB D w y f v s k n g5 g14 c14 kk ca cn cc wx
 k:gN (fun b=>b<w.heap.size) w wx
def zX.below(h:zX D w y f v s k n g5 g14 c14 kk ca cn cc wx){B:Nat}(a:g14<B)(hb:Below B wx wy):zX D w y f v s k n g5 g14 c14 kk ca cn cc wy:=
 ⟨h.s.below a hb,h.k.trans ((gE hb).mono (fun b h1=>by have:=h.s.h5;have:=h.s.h14;omega))⟩
def zX.set(h:zX D w y f v s k n g5 g14 c14 kk ca cn cc wx){a:Nat}(b:g14<a)(o:Nat)(u:Value):zX D w y f v s k n g5 g14 c14 kk ca cn cc (wx.setCell ⟨a,o,none⟩ u):=
 h.below b ((TH _ _).setCell (p:=⟨a,o,none⟩) (ag _) u)
end
def rC(s:gW)(zs:List Int)(a:Option Addr)(n c:Nat)(w:World)(i:IR w w 3 a n c zs)(o:n<=1000000)(m:s.gA.size<=9223372036854775807)(b:Bool)(hb:oA s zs n=b):
 Calls prog 12 #[.agg (⟨s,a,n,c⟩:jt)] w (iZ w (.int .i64 (if b then 0 else 110))):=by
 have f:=O (Y.new w s a n c);have d:=O ((TH w w).alloc (ag _) (.cells (⟨s,a,n,c⟩:jt) 58));have l:=O i;have k:=O hb;clear i hb;go_enter func12,ntmps12;go_upto_region 1 with fail;refine gI (fun j=>Y j w s a n c/\Below w w j) ⟨f,d⟩ ?_;clear f d;rintro p ⟨f:HQ _,d:HQ _⟩;cases b
 all_goals
  go_wp2_with(first
   |(refine gO f rfl (.tmp 1) rfl rfl ?_)
   |((with_reducible refine(lN s zs a n c _ (l.out.go d.out) o m).mono ?_);rintro e q ⟨h,g:HQ _⟩;rw[k]at h;subst h))
  go_ret;exact⟨rfl,I d g⟩
structure yD (D:Nat->Prop) (w:World) (y:gR) (f v s k:iJ) (n:Nat->Int) (g5:Nat) (z:gR) (zs zk:iJ) (wx:World):Prop where
 l1:kr wx w 37 y f v s k
 arr:Ik wx (w+1) n
 z0:wx.heap[w.heap.size+2]? =some (.cells #[ik,oZ,oZ,oZ,oZ,oN,oN,oN,oN] 37 (0,0))
 l5:kr wx g5 37 z f v zs zk
 h5:w.heap.size+2<g5
 dl:∀b,D b->b<w.heap.size
 at5:iP (fun b=>D b\/(g5<b/\b<wx.heap.size)) wx z f v zs zk
 at1:iP D wx y f v s k
 quiet:Ez D w wx
section
variable{D:Nat->Prop}{w:World}{y:gR}{f v s k:iJ}{n:Nat->Int}{g5:Nat}{z:gR}{zs zk:iJ}{wx wy:World}
def yD.below(h:yD D w y f v s k n g5 z zs zk wx)(hb:Below wx wx wy):yD D w y f v s k n g5 z zs zk wy:=by
 have h5:=h.h5;have d:=h.l5.lt
 have a:∀b,D b->b<wx.heap.size:=fun b hb=>by have:=h.dl b hb;omega
 have c:=hb.size;exact⟨(hb.block _ (by omega)).trans h.l1,(hb.block _ (by omega)).trans h.arr,(hb.block _ (by omega)).trans h.z0,(hb.block _ (by omega)).trans h.l5,h5,h.dl,h.at5.kept ((gE hb).mono (fun b h=>by obtain h|h:=h;exact a b h;exact h.2)) (fun b h=>by obtain h|h:=h;exact VR h;exact VS ⟨h.1,by omega⟩),h.at1.kept ((gE hb).mono a) (fun b h=>h),⟨hb.os.trans h.quiet.os,hb.tape.trans h.quiet.tape,hb.output.trans h.quiet.output,af h.quiet.size c,h.quiet.kept.trans ((gE hb).mono (fun b h=>by omega))⟩⟩
def yD.store(h:yD D w y f v s k n g5 z zs zk wx){g:gR}{d c:iJ}(l:iP (fun b=>D b\/(g5<b/\b<wx.heap.size)) wx g f v d c)(hb:kr wy g5 37 g f v d c)(i:wy=wx.setCells g5 0 (iw g f v d c)):yD D w y f v s k n g5 g d c wy:=by
 have h5:=h.h5
 have e:gN (fun b=>b≠g5) wx wy:=by rw[i];exact gK _ _ _ _
 have m:wy.heap.size=wx.heap.size:=by rw[i,im]
 have a:Below g5 wx wy:=by rw[i];exact ig (ag _) _ _ (TH _ _)
 have j:∀b,D b->b≠g5:=fun b hb=>by have:=h.dl b hb;omega
 exact⟨(e _ (by omega)).trans h.l1,(e _ (by omega)).trans h.arr,(e _ (by omega)).trans h.z0,hb,h5,h.dl,l.kept (e.mono (fun b h=>by obtain h|h:=h;exact j b h;omega)) (fun b h=>by rw[m];exact h),h.at1.kept (e.mono j) (fun b h=>h),⟨a.os.trans h.quiet.os,a.tape.trans h.quiet.tape,a.output.trans h.quiet.output,af h.quiet.size a.size,h.quiet.kept.trans (e.mono (fun b h=>by omega))⟩⟩
def yC.cn8{i:Nat}{d:Option Addr}{cn cc:Nat}{j:List jT}{q:jT}{b0 off:Nat}(a:yC D w y f v s k j i q d cn cc b0 off)(h:iI y=true):cn<=8:=by
 have b:iW y.stop y.l=true:=an.1 h 4 (by decide);unfold iW at b;simp only[am]at b;have h3:=b.1.1.2;unfold uM at h3;rw[di,du]at h3
 have g:q.y∈y.l:=by rw[<- a.eq];exact cP.2 ⟨q,aL a.at',rfl⟩
 have h5:=h3 q.y g
 have c:oA q.y.s q.y.zs (q.y.zs.length/3)=true:=by
  have:tr q.y=true:=by simpa using h5
  exact this
 unfold oA at c;simp only[am]at c;have e:pC q.y.s q.y.zs (q.y.zs.length/3) 6=true:=an.1 c.1 6 (by decide)
 have m:q.y.zs.length/3<=8:=by simpa[pC]using e
 have:=a.film.len;omega
def wB.fin{a u c:Nat}{r:Option Addr}{cn cc:Nat}{N:List jT}{q:jT}{b0 off:Nat}(h:wB D w y f v s k n g5 a u c r cn cc wx)(d:yC D w y f v s k N c q r cn cc b0 off)(h0:iP D w y f v s k){C:Nat}{s2:gW}{e:Option Addr}{fn fc:Nat}{E:List Int}
 (B:jN (fun b=>(Value.slice r cn cc).ownBlock=some b\/(C<b/\b<wx.heap.size)) wx e fn fc E)(P:a<C)(F:fn<=1000000)(hgl:s2.gA.size<=9223372036854775807):
 yD D w y f v s k n g5 {y with l:=y.l.set c ⟨s2,E⟩} ⟨some ⟨a,0,none⟩,s.n,u⟩ k (wx.setCells a (c*22) (gX s2 e fn fc)):=by
 have h5:=h.h5;have h14:=h.h14;have hlt:=h.hlt;have i:gN (fun b=>b≠a) wx (wx.setCells a (c*22) (gX s2 e fn fc)):=gK _ _ _ _;have L:(wx.setCells a (c*22) (gX s2 e fn fc)).heap.size=wx.heap.size:=im _ _ _ _
 have x:∀b,D b->b≠a:=fun b hb=>by have:=h.dl b hb;omega
 have m:Below a wx (wx.setCells a (c*22) (gX s2 e fn fc)):=ig (ag _) _ _ (TH _ _);have o:gN (wX D r cn cc) w (wx.setCells a (c*22) (gX s2 e fn fc)):=h.kept.trans (i.mono (fun b hb=>x b hb.1))
 have K:c<y.l.length:=by rw[<- d.eq,mD];exact(TG.1 d.at').1
 have A:Ey jE 22 58 (fun b=>wX D r cn cc b\/(Value.slice r cn cc).ownBlock=some b\/(C<b/\b<wx.heap.size)) (wx.setCells a (c*22) (gX s2 e fn fc)) (.slice (J a) s.n u) (y.l.set c ⟨s2,E⟩):=by
  refine A8.set iD (h.row.keep iD (gN.refl _ _) (fun b hb=>VR hb)) (fun t=>?_) K ⟨e,fn,fc,rfl,B.irp.kept (gN.refl _ _) (fun b hb=>VS hb),F,B.none,hgl⟩
  obtain t|t|t:=t
  .exact x a t.1 rfl
  .exact x a (h.own a t) rfl
  .omega
 refine⟨(i _ (by omega)).trans h.l1,(i _ (by omega)).trans h.arr,(i _ (by omega)).trans h.z,(i _ (by omega)).trans h.l5,h5,h.dl,⟨d.fs.kept o (fun b hb=>VR hb.1),d.ws.kept o (fun b hb=>VR hb.1),?_,d.cf.kept ky o (fun b hb=>VR hb.1),h0.fn,h0.wn,h0.sn,h0.kn,h0.fc,h0.wc,h0.nm⟩,?_,⟨m.os.trans h.quiet.os,m.tape.trans h.quiet.tape,m.output.trans h.quiet.output,af h.quiet.size m.size,h.quiet.kept.trans (i.mono (fun b h=>by omega))⟩⟩
 .refine A.rr iD (fun b hb=>?_) (VS ⟨h14,by rw[L];exact hlt⟩)
  obtain hb|hb|hb:=hb
  .exact VR hb.1
  .exact VR (h.own b hb)
  .exact VS ⟨by omega,by rw[L];exact hb.2⟩
 .exact d.still h0 o (fun g H j M=>(i.cell (p:=⟨g,j,none⟩) (x g (h.own g H))).trans (h.cells g H j M))
end
def vd:ByteArray:=⟨#[110,101,97,114]⟩
def ve:ByteArray:=⟨#[102,97,114,45,50]⟩
def Nx{w:World}{g h:Nat}{S:Nat->Prop}{u:Int}(d:w.heap[h]? =some (.cells #[vd,Z (J g) 1 1,ve,oN] 67 (0,0)))(f:w.heap[g]? =some (.cells #[oZ,.int .i64 9,u] 64 (0,0)))(k:S g)(l:S h):
 RR oB 2 S w (J h) 2 2 [⟨vd,[0,9,u]⟩,⟨ve,[]⟩]:=by
 refine⟨rfl,ag _,fun _=>⟨h,0,rfl,l,fun i x b=>?_⟩⟩
 match i,b with
 |0,b=>
  obtain rfl:(⟨vd,[0,9,u]⟩:jd)=x:=by simpa using b
  refine⟨_,⟨some ⟨g,0,none⟩,1,1,rfl,⟨rfl,ag _,fun _=>⟨g,0,rfl,k,fun j c=>?_⟩⟩,by omega,fun e=>by(cases e),(by show vd.size<=_;decide)⟩,fun j v a=>?_⟩
  .rw[aV,VV f]
   match j,c with
   |0,_=>rfl
   |1,_=>rfl
   |2,_=>rfl
  .have c:j<2:=(TG.1 a).1
   rw[show 0+0*2+j=j by omega,VV d]
   match j,c with
   |0,_=>exact a
   |1,_=>exact a
 |1,b=>
  obtain rfl:(⟨ve,[]⟩:jd)=x:=by simpa using b
  refine⟨_,⟨none,0,0,rfl,IRp.nil _ _ _ _ _,by omega,fun _=>rfl,(by show ve.size<=_;decide)⟩,fun j v a=>?_⟩;have c:j<2:=(TG.1 a).1;rw[show 0+1*2+j=2+j by omega,VV d]
  match j,c with
  |0,_=>exact a
  |1,_=>exact a
 |i+2,b=>simp at b
section
variable{P:Program}{H:Type}{enc:TypeId×Value->H}{w:World}{base:Nat}{sp:Nat->Bool}{held:Bool}{t e:TypeId}{c:Value}{cs:List Value}
def vf(a:P.underlying t=some (.int .u8))(h:Rd enc P w base sp held t [c]):∃z,c=.int .u8 z/\og z:=by
 obtain⟨z,e,h0,h1⟩:=xz a h;refine⟨z,by simpa using e,?_⟩;simp[IntKind.min,IntKind.max,IntKind.signed,IntKind.bits]at h0 h1;unfold og;omega
def SQ(a:P.underlying t=some (.int .i8))(h:Rd enc P w base sp held t [c]):∃z,c=.int .i8 z/\tU z:=by
 obtain⟨z,e,h0,h1⟩:=xz a h;refine⟨z,by simpa using e,?_⟩;simp[IntKind.min,IntKind.max,IntKind.signed,IntKind.bits]at h0 h1;unfold tU;omega
def qQ{n:Nat}(d:P.underlying t=some (.array n e))(c:P.underlying e=some (.int .i8))(a:P.cellsOf e=1)(b:P.cellsOf t=n)(h:Rd enc P w base sp held t cs)(i:Nat)(hi:i<n):∃z,cs[i]? =some (.int .i8 z)/\tU z:=by
 obtain⟨z,e,h0,h1⟩:=OU d c a b h i hi;refine⟨z,e,?_⟩;simp[IntKind.min,IntKind.max,IntKind.signed,IntKind.bits]at h0 h1;unfold tU;omega
def Ja(a:P.underlying t=some (.int .i16))(h:Rd enc P w base sp held t [c]):∃z,c=.int .i16 z/\qD z:=by
 obtain⟨z,e,h0,h1⟩:=xz a h;refine⟨z,by simpa using e,?_⟩;simp[IntKind.min,IntKind.max,IntKind.signed,IntKind.bits]at h0 h1;unfold qD;omega
def yU{n:Nat}(d:P.underlying t=some (.array n e))(c:P.underlying e=some (.int .i16))(a:P.cellsOf e=1)(b:P.cellsOf t=n)(h:Rd enc P w base sp held t cs)(i:Nat)(hi:i<n):∃z,cs[i]? =some (.int .i16 z)/\qD z:=by
 obtain⟨z,e,h0,h1⟩:=OU d c a b h i hi;refine⟨z,e,?_⟩;simp[IntKind.min,IntKind.max,IntKind.signed,IntKind.bits]at h0 h1;unfold qD;omega
def RH(a:P.underlying t=some (.int .u16))(h:Rd enc P w base sp held t [c]):∃z,c=.int .u16 z/\Ci z:=by
 obtain⟨z,e,h0,h1⟩:=xz a h;refine⟨z,by simpa using e,?_⟩;simp[IntKind.min,IntKind.max,IntKind.signed,IntKind.bits]at h0 h1;unfold Ci;omega
end
variable{H:Type}{enc:TypeId×Value->H}{w:World}{base:Nat}{sp:Nat->Bool}{held:Bool}{cs:List Value}
def RI(h:Rd enc prog w base sp held 99 cs):∃x,Rg (fun b=>b<w.heap.size) w x cs:=by
 have hl:cs.length=22:=(DY underlying99 h).trans (by kernel_rfl)
 match cs,hl with
 |[c0,c1,c2,c3,c4,c5,c6,c7,c8,c9,c10,c11,c12,c13,c14,c15,c16,c17,c18,c19,c20,c21],_=>
  obtain⟨kind,rfl,m⟩:=vf underlying5 (iO underlying99 h 0 (ty:=5) (off:=0) (n:=1) rfl (by kernel_rfl));obtain⟨v0,E,a1⟩:=yU underlying93 underlying25 (by kernel_rfl) (by kernel_rfl) (iO underlying99 h 1 (ty:=93) (off:=1) (n:=2) rfl (by kernel_rfl)) 0 (by omega)
  obtain rfl:c1=.int .i16 v0:=by simpa using E
  obtain⟨v1,F,a2⟩:=yU underlying93 underlying25 (by kernel_rfl) (by kernel_rfl) (iO underlying99 h 1 (ty:=93) (off:=1) (n:=2) rfl (by kernel_rfl)) 1 (by omega)
  obtain rfl:c2=.int .i16 v1:=by simpa using F
  obtain⟨k0,A,T⟩:=yU underlying93 underlying25 (by kernel_rfl) (by kernel_rfl) (iO underlying99 h 2 (ty:=93) (off:=3) (n:=2) rfl (by kernel_rfl)) 0 (by omega)
  obtain rfl:c3=.int .i16 k0:=by simpa using A
  obtain⟨k1,B,W⟩:=yU underlying93 underlying25 (by kernel_rfl) (by kernel_rfl) (iO underlying99 h 2 (ty:=93) (off:=3) (n:=2) rfl (by kernel_rfl)) 1 (by omega)
  obtain rfl:c4=.int .i16 k1:=by simpa using B
  obtain⟨h0,u,P⟩:=qQ underlying95 underlying94 (by kernel_rfl) (by kernel_rfl) (iO underlying99 h 3 (ty:=95) (off:=5) (n:=4) rfl (by kernel_rfl)) 0 (by omega)
  obtain rfl:c5=.int .i8 h0:=by simpa using u
  obtain⟨h1,v,Q⟩:=qQ underlying95 underlying94 (by kernel_rfl) (by kernel_rfl) (iO underlying99 h 3 (ty:=95) (off:=5) (n:=4) rfl (by kernel_rfl)) 1 (by omega)
  obtain rfl:c6=.int .i8 h1:=by simpa using v
  obtain⟨h2,y,R⟩:=qQ underlying95 underlying94 (by kernel_rfl) (by kernel_rfl) (iO underlying99 h 3 (ty:=95) (off:=5) (n:=4) rfl (by kernel_rfl)) 2 (by omega)
  obtain rfl:c7=.int .i8 h2:=by simpa using y
  obtain⟨h3,z,S⟩:=qQ underlying95 underlying94 (by kernel_rfl) (by kernel_rfl) (iO underlying99 h 3 (ty:=95) (off:=5) (n:=4) rfl (by kernel_rfl)) 3 (by omega)
  obtain rfl:c8=.int .i8 h3:=by simpa using z
  obtain⟨p0,C,X⟩:=qQ underlying96 underlying94 (by kernel_rfl) (by kernel_rfl) (iO underlying99 h 4 (ty:=96) (off:=9) (n:=2) rfl (by kernel_rfl)) 0 (by omega)
  obtain rfl:c9=.int .i8 p0:=by simpa using C
  obtain⟨p1,D,a0⟩:=qQ underlying96 underlying94 (by kernel_rfl) (by kernel_rfl) (iO underlying99 h 4 (ty:=96) (off:=9) (n:=2) rfl (by kernel_rfl)) 1 (by omega)
  obtain rfl:c10=.int .i8 p1:=by simpa using D
  obtain⟨order,rfl,j⟩:=SQ underlying94 (iO underlying99 h 5 (ty:=94) (off:=11) (n:=1) rfl (by kernel_rfl));obtain⟨tg,rfl,k⟩:=Ja underlying25 (iO underlying99 h 6 (ty:=25) (off:=12) (n:=1) rfl (by kernel_rfl));obtain⟨gA,rfl,i⟩:=vf underlying5 (iO underlying99 h 7 (ty:=5) (off:=13) (n:=1) rfl (by kernel_rfl));obtain⟨i6,rfl,o⟩:=vf underlying5 (iO underlying99 h 8 (ty:=5) (off:=14) (n:=1) rfl (by kernel_rfl));obtain⟨i7,rfl,l⟩:=vf underlying5 (iO underlying99 h 9 (ty:=5) (off:=15) (n:=1) rfl (by kernel_rfl));obtain⟨b0,p,H⟩:=qQ underlying97 underlying94 (by kernel_rfl) (by kernel_rfl) (iO underlying99 h 10 (ty:=97) (off:=16) (n:=5) rfl (by kernel_rfl)) 0 (by omega)
  obtain rfl:c16=.int .i8 b0:=by simpa using p
  obtain⟨b1,q,K⟩:=qQ underlying97 underlying94 (by kernel_rfl) (by kernel_rfl) (iO underlying99 h 10 (ty:=97) (off:=16) (n:=5) rfl (by kernel_rfl)) 1 (by omega)
  obtain rfl:c17=.int .i8 b1:=by simpa using q
  obtain⟨b2,r,L⟩:=qQ underlying97 underlying94 (by kernel_rfl) (by kernel_rfl) (iO underlying99 h 10 (ty:=97) (off:=16) (n:=5) rfl (by kernel_rfl)) 2 (by omega)
  obtain rfl:c18=.int .i8 b2:=by simpa using r
  obtain⟨b3,s,M⟩:=qQ underlying97 underlying94 (by kernel_rfl) (by kernel_rfl) (iO underlying99 h 10 (ty:=97) (off:=16) (n:=5) rfl (by kernel_rfl)) 3 (by omega)
  obtain rfl:c19=.int .i8 b3:=by simpa using s
  obtain⟨b4,t,N⟩:=qQ underlying97 underlying94 (by kernel_rfl) (by kernel_rfl) (iO underlying99 h 10 (ty:=97) (off:=16) (n:=5) rfl (by kernel_rfl)) 4 (by omega)
  obtain rfl:c20=.int .i8 b4:=by simpa using t
  obtain⟨d,f,e,g⟩:=AQ underlying24 underlying5 (by kernel_rfl) (iO underlying99 h 11 (ty:=24) (off:=21) (n:=1) rfl (by kernel_rfl))
  obtain rfl:c21=.slice d.a d.n d.c:=by simpa using e
  exact⟨⟨kind,v0,v1,k0,k1,h0,h1,h2,h3,p0,p1,order,tg,gA,i6,i7,b0,b1,b2,b3,b4,f⟩,_,_,_,rfl,g,⟨m,a1,a2,T,W,P,Q,R,S,X,a0,j,k,i,o,l,H,K,L,M,N⟩⟩
def RJ(h:Rd enc prog w base sp held 140 cs):∃x,Rp (fun b=>b<w.heap.size) w x cs:=by
 have a:cs.length=3:=(DY underlying140 h).trans (by kernel_rfl)
 match cs,a with
 |[c0,c1,c2],_=>
  obtain⟨s,rfl,d⟩:=vf underlying5 (iO underlying140 h 0 (ty:=5) (off:=0) (n:=1) rfl (by kernel_rfl));obtain⟨q,rfl,c⟩:=vf underlying5 (iO underlying140 h 1 (ty:=5) (off:=1) (n:=1) rfl (by kernel_rfl));obtain⟨v,rfl,e⟩:=Ja underlying25 (iO underlying140 h 2 (ty:=25) (off:=2) (n:=1) rfl (by kernel_rfl));exact⟨⟨s,q,v⟩,rfl,d,c,e⟩
def Qc(h:Rd enc prog w base sp held 138 cs):∃x,JA (fun b=>b<w.heap.size) w x cs:=by
 obtain⟨p,l,rfl,a⟩:=I9 (m:=3) underlying138 (by kernel_rfl) (by omega) (fun c d h2=>RJ h2) h;exact⟨l,_,_,_,rfl,a⟩
def RK(h:Rd enc prog w base sp held 28 cs):∃x s f v k,cs=lI x s f v k/\xU (fun b=>b<w.heap.size) w x s f v k:=by
 have B:cs.length=9:=(DY underlying28 h).trans (by kernel_rfl)
 match cs,B with
 |[c0,c1,c2,c3,c4,c5,c6,c7,c8],_=>
  obtain⟨o,E,z,L⟩:=I9 (m:=22) underlying22 (by kernel_rfl) (by omega) (fun r t h2=>RI h2) (iO underlying28 h 0 (ty:=22) (off:=0) (n:=1) rfl (by kernel_rfl))
  obtain rfl:c0=.slice o.a o.n o.c:=by simpa using z
  obtain⟨stop,rfl,i⟩:=vf underlying5 (iO underlying28 h 1 (ty:=5) (off:=1) (n:=1) rfl (by kernel_rfl));obtain⟨far,rfl,q⟩:=RH underlying23 (iO underlying28 h 2 (ty:=23) (off:=2) (n:=1) rfl (by kernel_rfl));obtain⟨pb,rfl,e⟩:=vf underlying5 (iO underlying28 h 3 (ty:=5) (off:=3) (n:=1) rfl (by kernel_rfl));obtain⟨j,C,u,H⟩:=AQ underlying24 underlying5 (by kernel_rfl) (iO underlying28 h 4 (ty:=24) (off:=4) (n:=1) rfl (by kernel_rfl))
  obtain rfl:c4=.slice j.a j.n j.c:=by simpa using u
  obtain⟨p,F,A,M⟩:=AQ underlying24 underlying5 (by kernel_rfl) (iO underlying28 h 5 (ty:=24) (off:=5) (n:=1) rfl (by kernel_rfl))
  obtain rfl:c5=.slice p.a p.n p.c:=by simpa using A
  obtain⟨p9,rfl,g⟩:=vf underlying5 (iO underlying28 h 6 (ty:=5) (off:=6) (n:=1) rfl (by kernel_rfl));obtain⟨il,rfl,d⟩:=Ja underlying25 (iO underlying28 h 7 (ty:=25) (off:=7) (n:=1) rfl (by kernel_rfl));obtain⟨l,D,y,K⟩:=I9 (m:=1) underlying26 (by kernel_rfl) (by omega) (fun r t h2=>Qc h2) (iO underlying28 h 8 (ty:=26) (off:=8) (n:=1) rfl (by kernel_rfl))
  obtain rfl:c8=.slice l.a l.n l.c:=by simpa using y
  exact⟨⟨E,stop,far,pb,C,F,p9,il,D⟩,o,j,p,l,rfl,⟨L,H,M,K,i,q,e,g,d⟩⟩
def SR(h:Rd enc prog w base sp held 30 cs):∃x c s f v k,cs=qd x c s f v k/\xU (fun b=>b<w.heap.size) w x s f v k/\og c:=by
 have a:cs.length=10:=(DY underlying30 h).trans (by kernel_rfl)
 match cs,a with
 |[c0,c1,c2,c3,c4,c5,c6,c7,c8,c9],_=>
  have g:=RK (cs:=[c0,c1,c2,c3,c4,c5,c6,c7,c8]) (iO underlying30 h 0 (ty:=28) (off:=0) (n:=9) rfl (by kernel_rfl));obtain⟨c,rfl,d⟩:=vf underlying5 (iO underlying30 h 1 (ty:=5) (off:=9) (n:=1) rfl (by kernel_rfl));obtain⟨x,s,f,v,k,el,e⟩:=g;refine⟨x,c,s,f,v,k,?_,e,d⟩
  show[c0,c1,c2,c3,c4,c5,c6,c7,c8]++[.int .u8 c]=_
  rw[el];rfl
def Qd:∀zs:List Int,zs.length=8->(∀z∈zs,IntKind.u8.has z)-> ∃n:Nat->Int,Value.agg (zs.map (Value.int .u8)).toArray=Nw n/\ ∀i,og (n i)
 |[z0,z1,z2,z3,z4,z5,z6,z7],_,h=>by
  have a:∀z∈ [z0,z1,z2,z3,z4,z5,z6,z7],og z:=fun z b=>by
   have:=h z b;simp[IntKind.has,IntKind.min,IntKind.max,IntKind.signed,IntKind.bits]at this;unfold og;omega
  refine⟨fun i=>match i with|0=>z0|1=>z1|2=>z2|3=>z3|4=>z4|5=>z5|6=>z6|7=>z7|_=>0,rfl,fun i=>?_⟩
  match i with
  |0=>exact a _ (by simp)
  |1=>exact a _ (by simp)
  |2=>exact a _ (by simp)
  |3=>exact a _ (by simp)
  |4=>exact a _ (by simp)
  |5=>exact a _ (by simp)
  |6=>exact a _ (by simp)
  |7=>exact a _ (by simp)
  |_+8=>exact(⟨by omega,by omega⟩:og 0)
