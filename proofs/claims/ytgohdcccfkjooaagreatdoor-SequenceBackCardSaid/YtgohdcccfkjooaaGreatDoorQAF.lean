import Derived.Test.YtgohdcccfkjooaaGreatDoorQAE
namespace Go.Proofs.YtgohdcccfkjooaaGreatDoor
set_option linter.all false
set_option maxRecDepth 100000
set_option maxHeartbeats 3200000
open Go.Proofs.Tryz Go.RowKit
def Y.asph{w g s a n c}(h:Y w g s a n c):SL w w (some ⟨g,5,none⟩) 4 4 [s.a0,s.a1,s.a2,s.a3]:=by
 obtain⟨_,_,_,_,_,h5,b,d,e,_⟩:=h.cells;refine⟨rfl,aa _,fun _=>⟨g,5,rfl,h.lt,fun j f=>?_⟩⟩
 match j,f with
 |0,_=>exact h5
 |1,_=>exact b
 |2,_=>exact d
 |3,_=>exact e
def Y.phase{w g s a n c}(h:Y w g s a n c):SL w w (some ⟨g,9,none⟩) 2 2 [s.p0,s.p1]:=by
 obtain⟨_,_,_,_,_,_,_,_,_,d,b,_⟩:=h.cells;refine⟨rfl,aa _,fun _=>⟨g,9,rfl,h.lt,fun j e=>?_⟩⟩
 match j,e with
 |0,_=>exact d
 |1,_=>exact b
def uU(s:gW):Bool:=!jr (-1000000000) 1000000000 [s.curv,s.curvX,s.thick,s.dx,s.dy]&& !jr (-1000000000) 1000000000 [s.a0,s.a1,s.a2,s.a3]&& !jr (-1000000000) 1000000000 [s.p0,s.p1]
def uV(s:gW):Bool:=!jr (-100000000) 100000000 [s.conic,s.conicX]&& !jr (-90000000) 90000000 [s.ax,s.ay,s.az]
def uW(s:gW):Bool:=!jr (-3) 3 [s.order]&& !jr 0 1000000000 [s.semi,s.hole]
def xI(s:gW):Bool:=decide (s.semi=0)||decide (s.hole<s.semi)
def BC(s a n c g w)(h:Y w g s a n c):Calls prog 203 #[U g] w (iZ w (.bool (uU s))):=by
 obtain⟨k0,k1,C,D,E,F,K,L,M,N,o,p,q,r,t,u,v,x,y,z,A,B⟩:=h.cells;have j:=h.lt;have H:=O h;clear h
 go_enter func203,ntmps203
 go_wp2_with(first
  |((with_reducible refine(qh _ _ _ _ _ _ (TF (by simp)) (by omega) (by omega) (by omega)).mono ?_);rintro e d ⟨rfl,b⟩;obtain⟨i,hf⟩:=rp b;(have k:g<d.heap.size:=by(have:=b.size;(try simp at this);omega));have f:=O (I (gY (TH _ _)) b);have S1:=O (Y.asph (Y.go H f j)))
  |((with_reducible refine(qh _ _ _ _ _ _ S1.out (by omega) (by omega) (by omega)).mono ?_);rintro e d ⟨rfl,b⟩;obtain⟨i,hf⟩:=rp b;(have k:g<d.heap.size:=by(have:=b.size;(try simp at this);omega));have l:=O (I f b);have m:=O (Y.phase (Y.go H l j)))
  |((with_reducible refine(qh _ _ _ _ _ _ m.out (by omega) (by omega) (by omega)).mono ?_);rintro e d ⟨rfl,b⟩;obtain⟨i,hf⟩:=rp b;(have k:g<d.heap.size:=by(have:=b.size;(try simp at this);omega))))
 all_goals
  go_ret;refine⟨?_,by(repeat (first|exact TH _ _|apply gY|apply jA|exact below_chain1 (by assumption)|(refine I ?_ (by assumption))|(refine qo ?_ ?_)))⟩;simp[uU, *]
def BD(s a n c g w)(h:Y w g s a n c):Calls prog 205 #[U g] w (iZ w (.bool (uV s))):=by
 obtain⟨k0,k1,z,A,B,C,D,E,F,K,j,k,l,m,o,p,q,r,t,u,v,x⟩:=h.cells;have y:=h.lt;have H:=O h;clear h
 go_enter func205,ntmps205
 go_wp2_with(first
  |((with_reducible refine(qh _ _ _ _ _ _ (Tw (by simp)) (by omega) (by omega) (by omega)).mono ?_);rintro e d ⟨rfl,b⟩;obtain⟨f,hf⟩:=rp b;(have i:g<d.heap.size:=by(have:=b.size;(try simp at this);omega)))
  |((with_reducible refine(qh _ _ _ _ _ _ (TE (by simp)) (by omega) (by omega) (by omega)).mono ?_);rintro e d ⟨rfl,b⟩;obtain⟨f,hf⟩:=rp b;(have i:g<d.heap.size:=by(have:=b.size;(try simp at this);omega))))
 all_goals
  go_ret;refine⟨?_,by(repeat (first|exact TH _ _|apply gY|apply jA|exact below_chain1 (by assumption)|(refine I ?_ (by assumption))|(refine qo ?_ ?_)))⟩;simp[uV, *]
def BE(s a n c g w)(h:Y w g s a n c):Calls prog 206 #[U g] w (iZ w (.bool (uW s))):=by
 obtain⟨k0,k1,z,A,B,C,D,E,F,K,j,k,l,m,o,p,q,r,t,u,v,x⟩:=h.cells;have y:=h.lt;have H:=O h;clear h
 go_enter func206,ntmps206
 go_wp2_with(first
  |((with_reducible refine(qh _ _ _ _ _ _ (SY (by simp)) (by omega) (by omega) (by omega)).mono ?_);rintro e d ⟨rfl,b⟩;obtain⟨f,hf⟩:=rp b;(have i:g<d.heap.size:=by(have:=b.size;(try simp at this);omega)))
  |((with_reducible refine(pz _ _ _ _ _ _ _ (Tw (by simp)) (by omega)).mono ?_);rintro e d ⟨rfl,b⟩;obtain⟨f,hf⟩:=rp b;(have i:g<d.heap.size:=by(have:=b.size;(try simp at this);omega))))
 all_goals
  go_ret;refine⟨?_,by(repeat (first|exact TH _ _|apply gY|apply jA|exact below_chain1 (by assumption)|(refine I ?_ (by assumption))|(refine qo ?_ ?_)))⟩;simp[uW, *]
def BF(s a n c g w)(h:Y w g s a n c):Calls prog 207 #[U g] w (iZ w (.bool (xI s))):=by
 obtain⟨k0,k1,r,t,u,v,x,y,z,A,b,d,e,f,i,j,k,l,m,o,p,q⟩:=h.cells;clear h
 go_enter func207,ntmps207
 go_wp2
 all_goals
  go_ret;refine⟨?_,TH _ _⟩;simp[xI, *]
def BG(s a n c g w)(h:Y w g s a n c):Calls prog 209 #[U g] w (iZ w (.bool (decide (n<=8)))):=by
 obtain⟨k0,k1,t,u,v,x,y,z,A,B,d,e,f,i,j,k,l,m,o,p,q,r⟩:=h.cells;clear h
 go_enter func209,ntmps209
 go_wp2
 all_goals
  go_ret;refine⟨ai (fun b=>Ending.returned (Value.bool b)) (dj.2 (by omega)),TH _ _⟩
def ik:ByteArray:=⟨#[]⟩
def rI(s:gW):Bool:=s.glass.toList.isEmpty||kI s.glass
def BH(s a n c g w)(h:Y w g s a n c)(b:s.glass.size<=9223372036854775807):Calls prog 208 #[U g] w (iZ w (.bool (rI s))):=by
 obtain⟨k0,k1,v,x,y,z,A,B,C,D,d,f,i,j,k,l,m,o,p,q,r,t⟩:=h.cells;clear h
 go_enter func208,ntmps208
 go_wp2_with((with_reducible refine(ze _ _ b).mono ?_);rintro e E ⟨rfl,u⟩)
 all_goals
  go_ret;refine⟨?_,by(repeat (first|exact TH _ _|apply gY|apply jA|exact below_chain1 (by assumption)|(refine I ?_ (by assumption))|(refine qo ?_ ?_)))⟩;simp[rI, *]
def kT(g:ByteArray):Bool:=g.toList==[77,73,82,82,79,82]
def rJ(s:gW):gW:=
 if s.kind=1 then{s with curvX:=0,conicX:=0,p0:=if s.order≠0/\kT s.glass=false then s.p0 else 0,p1:=if s.order≠0/\kT s.glass=false then s.p1 else 0,order:=if s.order≠0/\kT s.glass=false then s.order else 0,dx:=0,dy:=0,ax:=0,ay:=0,az:=0}
 else if s.kind=2 then{s with a0:=0,a1:=0,a2:=0,a3:=0,p0:=0,p1:=0,order:=0,dx:=0,dy:=0,ax:=0,ay:=0,az:=0}
 else if s.kind=3 then{kind:=s.kind,curv:=0,conic:=0,curvX:=0,conicX:=0,a0:=0,a1:=0,a2:=0,a3:=0,p0:=0,p1:=0,order:=0,thick:=s.thick,glass:=ik,semi:=0,hole:=0,dx:=s.dx,dy:=s.dy,ax:=s.ax,ay:=s.ay,az:=s.az}
 else{kind:=s.kind,curv:=s.curv,conic:=0,curvX:=0,conicX:=0,a0:=0,a1:=0,a2:=0,a3:=0,p0:=0,p1:=0,order:=0,thick:=s.thick,glass:=ik,semi:=s.semi,hole:=s.hole,dx:=0,dy:=0,ax:=0,ay:=0,az:=0}
def sj(w:World)(s:gW)(a:Option Addr)(n c:Nat)(e:Ending)(w':World):Prop:=e=.returned (.agg (⟨s,a,n,c⟩:jt))/\Below w w w'
def zh{B w w'}(h:Below B w w'):Below B w.drew w'.drew:=⟨h.os,h.tape,h.output,h.size,h.block⟩
def iQ{B g k}{w:World}{v}(h:B<=g):Below B w.drew (w.setCell ⟨g,k,none⟩ v).drew:=zh ((TH _ _).setCell (p:=⟨g,k,none⟩) h _)
def MH{B g k a}{w:World}{v u}(h:B<=g):Below B w.drew ((w.setCell ⟨g,k,none⟩ v).setCell ⟨g,a,none⟩ u).drew:=zh (((TH _ _).setCell (p:=⟨g,k,none⟩) h _).setCell (p:=⟨g,a,none⟩) h _)
def ii{w A:World}{g k v}(h:Below w w A)(a:w.heap.size<=g):Below w w (A.setCell ⟨g,k,none⟩ v):=h.setCell (p:=⟨g,k,none⟩) a _
def pd{w:World}{b:Nat}{o}(h:w.heap[b]? =some o):w.drew.heap[b]? =some o:=h
def Y.of_dr{w:World}{g s a n c}(h:w.heap[g]? =some (.cells (⟨s,a,n,c⟩:jt) 70 (0,0))):Y w.drew g s a n c:=h
def il{w:World}{g}{l:List Value}{k v}(h:w.heap[g]? =some (.cells l.toArray 70 (0,0))):(w.setCell ⟨g,k,none⟩ v).heap[g]? =some (.cells (l.set k v).toArray 70 (0,0)):=by
 have:=gG h k v
 rwa[bK]at this
structure Tv where
def zS:Tv:=⟨⟩
instance:Coe Tv (Array Value):=⟨fun _=>#[.int .i64 0,.int .i64 0,.int .i64 0,.int .i64 0,.int .i64 0,.int .i64 0,.int .i64 0,.int .i64 0,.int .i64 0,.int .i64 0,.int .i64 0,.int .i64 0,.int .i64 0,.string ik,.int .i64 0,.int .i64 0,.int .i64 0,.int .i64 0,.int .i64 0,.int .i64 0,.int .i64 0,.slice none 0 0]⟩
def QH(s a n c w)(hk:s.kind=2):Calls prog 202 #[.agg (⟨s,a,n,c⟩:jt)] w (sj w (rJ s) a n c):=by
 obtain⟨kind,curv,conic,curvX,conicX,a0,a1,a2,a3,p0,p1,order,thick,glass,semi,hole,dx,dy,ax,ay,az⟩:=s;obtain rfl:kind=2:=hk;obtain⟨p,q,r⟩:=BB w (.cells #[.int .i64 2,curv,conic,curvX,conicX,a0,a1,a2,a3,p0,p1,order,thick,glass,semi,hole,dx,dy,ax,ay,az,Z a n c] 70) (.cells zS 70) (.cells zS 70);have e:=wU w (.cells #[.int .i64 2,curv,conic,curvX,conicX,a0,a1,a2,a3,p0,p1,order,thick,glass,semi,hole,dx,dy,ax,ay,az,Z a n c] 70) (.cells zS 70) (.cells zS 70);have E1:=O p;have E2:=O q;have m:=O r;have Hb:=O e;clear p q r e
 go_enter func202,ntmps202
 go_wp2_with(refine hE (g:=w.heap.size+2) ⟨2,0,0,0,0,0,0,0,0,0,0,0,thick,ik,0,0,0,0,0,0,0⟩ none 0 0 m rfl rfl (.tmp 3) (.tmp 8) rfl rfl rfl ?_;refine jJ (fun d=>Y d w ⟨2,curv,conic,curvX,conicX,a0,a1,a2,a3,p0,p1,order,thick,glass,semi,hole,dx,dy,ax,ay,az⟩ a n c/\d.heap[w.heap.size+1]? =some (.cells zS 70 (0,0))/\Y d (w+1+1) ⟨2,0,0,0,0,0,0,0,0,0,0,0,thick,ik,0,0,0,0,0,0,0⟩ none 0 0/\Below w w d) ⟨vS.other E1 (by omega) _ _ _ _,vS.other E2 (by omega) _ _ _ _,Y.stored m rfl _ _ _ _,Below.put22 Hb (by omega) _ _ _ _⟩ ?_;rintro w1 ⟨h1,h2,h3,e⟩;have q1:=Y.cells h1)
 clear q1;obtain⟨z0,z1,z2,z3,z4,z5,z6,z7,z8,z9,P,Q,R,S,T,W,X,a4,a5,a6,a7,a8⟩:=h3.cells;have f0:=Y.free h3 3;have f1:=Y.free h3 4;have hz:=h3.lt;have hl:=h1.lt;refine jw (w+1+1) [0,1,2,3,4] 3 (by kernel_rfl) rfl (by kernel_rfl) (by kernel_rfl) (fun _ _ o _ _ h=>by cases o<;>exact h) ?_
 iterate 5
  refine jW (v:=?_) rfl (by rfl) ?_ ?_;rotate_left
  .intro y l
   obtain⟨y0,y1,y2,y3,y4,y5,y6,y7,y8,y9,x,z,A,B,C,D,E,F,H,L,M,N⟩:=Y.cells (Y.go h1 (gJ (k:=1) l) (by omega));go_simp
   with_reducible rfl
  try simp only[V]
 refine mB ?_;refine ia (i:=5) (by kernel_rfl) rfl rfl (fun K b=>?_);go_simp;refine b _ _ (iQ (aa _)) ?_;clear b K;refine ia (i:=6) (by kernel_rfl) rfl rfl (fun K b=>?_);go_simp;refine b _ _ (TH _ _) ?_;clear b K;refine ia (i:=7) (by kernel_rfl) rfl rfl (fun K b=>?_);go_simp;refine b _ _ (iQ (aa _)) ?_;clear b K;refine lH (by kernel_rfl) ?_
 go_upto_region 15 with fail
 have f:=il (k:=4) (v:=.int .i64 conicX) (il (k:=3) (v:=.int .i64 curvX) (h3));simp only[aZ,aW]at f;have u:=(gF (gF h1 ⟨w.heap.size+1+1,3,none⟩ (by show w.heap.size+1+1≠w.heap.size;omega) (.int .i64 curvX)) ⟨w.heap.size+1+1,4,none⟩ (by show w.heap.size+1+1≠w.heap.size;omega) (.int .i64 conicX));have j:=(gF (gF h2 ⟨w.heap.size+1+1,3,none⟩ (by show w.heap.size+1+1≠w.heap.size+1;omega) (.int .i64 curvX)) ⟨w.heap.size+1+1,4,none⟩ (by show w.heap.size+1+1≠w.heap.size+1;omega) (.int .i64 conicX));refine gI (fun d=>Y d w ⟨2,curv,conic,curvX,conicX,a0,a1,a2,a3,p0,p1,order,thick,glass,semi,hole,dx,dy,ax,ay,az⟩ a n c/\d.heap[w.heap.size+1]? =some (.cells zS 70 (0,0))/\Y d (w+1+1) ⟨2,0,0,curvX,conicX,0,0,0,0,0,0,0,thick,ik,0,0,0,0,0,0,0⟩ none 0 0/\Below w w d) ⟨pd u,pd j,Y.of_dr f,jA (ii (ii (e) (by omega)) (by omega))⟩ ?_;clear e h2 h3 j f h1 u;rintro w2 ⟨h1,h2,h3,e⟩;obtain⟨z0,z1,z2,z3,z4,z5,z6,z7,z8,z9,P,Q,R,S,T,W,X,a4,a5,a6,a7,a8⟩:=h3.cells;have f0:=Y.free h3 1;have f1:=Y.free h3 2;have f2:=Y.free h3 13;have f3:=Y.free h3 14;have f4:=Y.free h3 15;have f5:=Y.free h3 21;have hz:=h3.lt;have hl:=h1.lt;refine jw (w+1+1) [0,1,2,3,4,5,6,7,8,9,10,11,12] 11 (by kernel_rfl) rfl (by kernel_rfl) (by kernel_rfl) (fun _ _ o _ _ h=>by cases o<;>exact h) ?_
 iterate 13
  refine jW (v:=?_) rfl (by rfl) ?_ ?_;rotate_left
  .intro y l
   obtain⟨y0,y1,y2,y3,y4,y5,y6,y7,y8,y9,x,z,A,B,C,D,E,F,H,L,M,N⟩:=Y.cells (Y.go h1 (gJ (k:=1) l) (by omega));go_simp
   with_reducible rfl
  try simp only[V]
 refine mB ?_;refine ia (i:=13) (by kernel_rfl) rfl rfl (fun K b=>?_);go_simp;refine b _ _ (iQ (aa _)) ?_;clear b K;refine ia (i:=14) (by kernel_rfl) rfl rfl (fun K b=>?_);go_simp;refine b _ _ (TH _ _) ?_;clear b K;refine ia (i:=15) (by kernel_rfl) rfl rfl (fun K b=>?_);go_simp;refine b _ _ (iQ (aa _)) ?_;clear b K;refine ia (i:=16) (by kernel_rfl) rfl rfl (fun K b=>?_);go_simp;refine b _ _ (TH _ _) ?_;clear b K;refine ia (i:=17) (by kernel_rfl) rfl rfl (fun K b=>?_);go_simp;refine b _ _ (iQ (aa _)) ?_;clear b K;refine ia (i:=18) (by kernel_rfl) rfl rfl (fun K b=>?_);go_simp;refine b _ _ (TH _ _) ?_;clear b K;refine ia (i:=19) (by kernel_rfl) rfl rfl (fun K b=>?_);go_simp;refine b _ _ (iQ (aa _)) ?_;clear b K;refine ia (i:=20) (by kernel_rfl) rfl rfl (fun K b=>?_);go_simp;refine b _ _ (TH _ _) ?_;clear b K;refine ia (i:=21) (by kernel_rfl) rfl rfl (fun K b=>?_);go_simp;refine b _ _ (iQ (aa _)) ?_;clear b K;refine ia (i:=22) (by kernel_rfl) rfl rfl (fun K b=>?_);go_simp;refine b _ _ (TH _ _) ?_;clear b K;refine ia (i:=23) (by kernel_rfl) rfl rfl (fun K b=>?_);go_simp;refine b _ _ (iQ (aa _)) ?_;clear b K;refine lH (by kernel_rfl) ?_
 go_upto_region 16 with fail
 have f:=il (k:=21) (v:=.slice a n c) (il (k:=15) (v:=.int .i64 hole) (il (k:=14) (v:=.int .i64 semi) (il (k:=13) (v:=.string glass) (il (k:=2) (v:=.int .i64 conic) (il (k:=1) (v:=.int .i64 curv) (h3))))));simp only[aZ,aW]at f;have j:=(gF (gF (gF (gF (gF (gF h2 ⟨w.heap.size+1+1,1,none⟩ (by show w.heap.size+1+1≠w.heap.size+1;omega) (.int .i64 curv)) ⟨w.heap.size+1+1,2,none⟩ (by show w.heap.size+1+1≠w.heap.size+1;omega) (.int .i64 conic)) ⟨w.heap.size+1+1,13,none⟩ (by show w.heap.size+1+1≠w.heap.size+1;omega) (.string glass)) ⟨w.heap.size+1+1,14,none⟩ (by show w.heap.size+1+1≠w.heap.size+1;omega) (.int .i64 semi)) ⟨w.heap.size+1+1,15,none⟩ (by show w.heap.size+1+1≠w.heap.size+1;omega) (.int .i64 hole)) ⟨w.heap.size+1+1,21,none⟩ (by show w.heap.size+1+1≠w.heap.size+1;omega) (.slice a n c));refine gI (fun d=>d.heap[w.heap.size+1]? =some (.cells zS 70 (0,0))/\Y d (w+1+1) ⟨2,curv,conic,curvX,conicX,0,0,0,0,0,0,0,thick,glass,semi,hole,0,0,0,0,0⟩ a n c/\Below w w d) ⟨pd j,Y.of_dr f,jA (ii (ii (ii (ii (ii (ii (e) (by omega)) (by omega)) (by omega)) (by omega)) (by omega)) (by omega))⟩ ?_;clear e h2 h3 j f h1;rintro w3 ⟨h2,h3,e⟩
 go_wp2_with(first
  |(refine gO h3 rfl (.tmp 3) rfl rfl ?_)
  |(refine hE _ _ _ _ h2 rfl rfl (.tmp 2) (.tmp 86) rfl rfl rfl ?_;refine jJ (fun d=>Y d (w+1) ⟨2,curv,conic,curvX,conicX,0,0,0,0,0,0,0,thick,glass,semi,hole,0,0,0,0,0⟩ a n c/\Below w w d) ⟨Y.stored h2 rfl _ _ _ _,Below.put22 e (by omega) _ _ _ _⟩ ?_;rintro w9 ⟨h4,t⟩))
 exact ar (lu rfl rfl h4) rfl ⟨rfl,t⟩
def QI(s a n c w)(A:s.kind=3):Calls prog 202 #[.agg (⟨s,a,n,c⟩:jt)] w (sj w (rJ s) none 0 0):=by
 obtain⟨kind,curv,conic,curvX,conicX,a0,a1,a2,a3,p0,p1,order,thick,glass,semi,hole,dx,dy,ax,ay,az⟩:=s;obtain rfl:kind=3:=A;obtain⟨l,m,p⟩:=BB w (.cells #[.int .i64 3,curv,conic,curvX,conicX,a0,a1,a2,a3,p0,p1,order,thick,glass,semi,hole,dx,dy,ax,ay,az,Z a n c] 70) (.cells zS 70) (.cells zS 70);have e:=wU w (.cells #[.int .i64 3,curv,conic,curvX,conicX,a0,a1,a2,a3,p0,p1,order,thick,glass,semi,hole,dx,dy,ax,ay,az,Z a n c] 70) (.cells zS 70) (.cells zS 70);have t:=O l;have u:=O m;have j:=O p;have x:=O e;clear l m p e
 go_enter func202,ntmps202
 go_wp2_with(refine hE (g:=w.heap.size+2) ⟨3,0,0,0,0,0,0,0,0,0,0,0,thick,ik,0,0,0,0,0,0,0⟩ none 0 0 j rfl rfl (.tmp 3) (.tmp 8) rfl rfl rfl ?_;refine jJ (fun d=>Y d w ⟨3,curv,conic,curvX,conicX,a0,a1,a2,a3,p0,p1,order,thick,glass,semi,hole,dx,dy,ax,ay,az⟩ a n c/\d.heap[w.heap.size+1]? =some (.cells zS 70 (0,0))/\Y d (w+1+1) ⟨3,0,0,0,0,0,0,0,0,0,0,0,thick,ik,0,0,0,0,0,0,0⟩ none 0 0/\Below w w d) ⟨vS.other t (by omega) _ _ _ _,vS.other u (by omega) _ _ _ _,Y.stored j rfl _ _ _ _,Below.put22 x (by omega) _ _ _ _⟩ ?_;rintro w1 ⟨h1,h2,h3,e⟩;have C:=Y.cells h1)
 clear C;obtain⟨z0,z1,z2,z3,z4,z5,z6,z7,z8,z9,W,X,a4,a5,a6,a7,a8,a9,b0,b1,b2,b3⟩:=h3.cells;have f0:=Y.free h3 16;have f1:=Y.free h3 17;have f2:=Y.free h3 18;have f3:=Y.free h3 19;have f4:=Y.free h3 20;have hz:=h3.lt;have hl:=h1.lt;refine jw (w+1+1) [0,1,2,3,4,5,6,7,8,9,10] 9 (by kernel_rfl) rfl (by kernel_rfl) (by kernel_rfl) (fun _ _ o _ _ h=>by cases o<;>exact h) ?_
 iterate 11
  refine jW (v:=?_) rfl (by rfl) ?_ ?_;rotate_left
  .intro y B
   obtain⟨y0,y1,y2,y3,y4,y5,y6,y7,y8,y9,D,E,F,H,L,M,N,P,Q,R,S,T⟩:=Y.cells (Y.go h1 (gJ (k:=1) B) (by omega));go_simp
   with_reducible rfl
  try simp only[V]
 refine mB ?_;refine ia (i:=11) (by kernel_rfl) rfl rfl (fun K b=>?_);go_simp;refine b _ _ (iQ (aa _)) ?_;clear b K;refine ia (i:=12) (by kernel_rfl) rfl rfl (fun K b=>?_);go_simp;refine b _ _ (TH _ _) ?_;clear b K;refine ia (i:=13) (by kernel_rfl) rfl rfl (fun K b=>?_);go_simp;refine b _ _ (iQ (aa _)) ?_;clear b K;refine ia (i:=14) (by kernel_rfl) rfl rfl (fun K b=>?_);go_simp;refine b _ _ (TH _ _) ?_;clear b K;refine ia (i:=15) (by kernel_rfl) rfl rfl (fun K b=>?_);go_simp;refine b _ _ (iQ (aa _)) ?_;clear b K;refine ia (i:=16) (by kernel_rfl) rfl rfl (fun K b=>?_);go_simp;refine b _ _ (TH _ _) ?_;clear b K;refine ia (i:=17) (by kernel_rfl) rfl rfl (fun K b=>?_);go_simp;refine b _ _ (iQ (aa _)) ?_;clear b K;refine ia (i:=18) (by kernel_rfl) rfl rfl (fun K b=>?_);go_simp;refine b _ _ (TH _ _) ?_;clear b K;refine ia (i:=19) (by kernel_rfl) rfl rfl (fun K b=>?_);go_simp;refine b _ _ (iQ (aa _)) ?_;clear b K;refine lH (by kernel_rfl) ?_
 go_upto_region 11 with fail
 have f:=il (k:=20) (v:=.int .i64 az) (il (k:=19) (v:=.int .i64 ay) (il (k:=18) (v:=.int .i64 ax) (il (k:=17) (v:=.int .i64 dy) (il (k:=16) (v:=.int .i64 dx) (h3)))));simp only[aZ,aW]at f;have r:=(gF (gF (gF (gF (gF h2 ⟨w.heap.size+1+1,16,none⟩ (by show w.heap.size+1+1≠w.heap.size+1;omega) (.int .i64 dx)) ⟨w.heap.size+1+1,17,none⟩ (by show w.heap.size+1+1≠w.heap.size+1;omega) (.int .i64 dy)) ⟨w.heap.size+1+1,18,none⟩ (by show w.heap.size+1+1≠w.heap.size+1;omega) (.int .i64 ax)) ⟨w.heap.size+1+1,19,none⟩ (by show w.heap.size+1+1≠w.heap.size+1;omega) (.int .i64 ay)) ⟨w.heap.size+1+1,20,none⟩ (by show w.heap.size+1+1≠w.heap.size+1;omega) (.int .i64 az));refine gI (fun d=>d.heap[w.heap.size+1]? =some (.cells zS 70 (0,0))/\Y d (w+1+1) ⟨3,0,0,0,0,0,0,0,0,0,0,0,thick,ik,0,0,dx,dy,ax,ay,az⟩ none 0 0/\Below w w d) ⟨pd r,Y.of_dr f,jA (ii (ii (ii (ii (ii (e) (by omega)) (by omega)) (by omega)) (by omega)) (by omega))⟩ ?_;clear e h2 h3 r f h1;rintro w3 ⟨h2,h3,e⟩
 go_wp2_with(first
  |(refine gO h3 rfl (.tmp 3) rfl rfl ?_)
  |(refine hE _ _ _ _ h2 rfl rfl (.tmp 2) (.tmp 55) rfl rfl rfl ?_;refine jJ (fun d=>Y d (w+1) ⟨3,0,0,0,0,0,0,0,0,0,0,0,thick,ik,0,0,dx,dy,ax,ay,az⟩ none 0 0/\Below w w d) ⟨Y.stored h2 rfl _ _ _ _,Below.put22 e (by omega) _ _ _ _⟩ ?_;rintro w9 ⟨z,q⟩))
 exact ar (lu rfl rfl z) rfl ⟨rfl,q⟩
def QJ(s a n c w)(A:s.kind=4):Calls prog 202 #[.agg (⟨s,a,n,c⟩:jt)] w (sj w (rJ s) none 0 0):=by
 obtain⟨kind,curv,conic,curvX,conicX,a0,a1,a2,a3,p0,p1,order,thick,glass,semi,hole,dx,dy,ax,ay,az⟩:=s;obtain rfl:kind=4:=A;obtain⟨l,m,p⟩:=BB w (.cells #[.int .i64 4,curv,conic,curvX,conicX,a0,a1,a2,a3,p0,p1,order,thick,glass,semi,hole,dx,dy,ax,ay,az,Z a n c] 70) (.cells zS 70) (.cells zS 70);have e:=wU w (.cells #[.int .i64 4,curv,conic,curvX,conicX,a0,a1,a2,a3,p0,p1,order,thick,glass,semi,hole,dx,dy,ax,ay,az,Z a n c] 70) (.cells zS 70) (.cells zS 70);have t:=O l;have u:=O m;have j:=O p;have x:=O e;clear l m p e
 go_enter func202,ntmps202
 go_wp2_with(refine hE (g:=w.heap.size+2) ⟨4,0,0,0,0,0,0,0,0,0,0,0,thick,ik,0,0,0,0,0,0,0⟩ none 0 0 j rfl rfl (.tmp 3) (.tmp 8) rfl rfl rfl ?_;refine jJ (fun d=>Y d w ⟨4,curv,conic,curvX,conicX,a0,a1,a2,a3,p0,p1,order,thick,glass,semi,hole,dx,dy,ax,ay,az⟩ a n c/\d.heap[w.heap.size+1]? =some (.cells zS 70 (0,0))/\Y d (w+1+1) ⟨4,0,0,0,0,0,0,0,0,0,0,0,thick,ik,0,0,0,0,0,0,0⟩ none 0 0/\Below w w d) ⟨vS.other t (by omega) _ _ _ _,vS.other u (by omega) _ _ _ _,Y.stored j rfl _ _ _ _,Below.put22 x (by omega) _ _ _ _⟩ ?_;rintro w1 ⟨h1,h2,h3,e⟩;have C:=Y.cells h1)
 clear C;obtain⟨z0,z1,z2,z3,z4,z5,z6,z7,z8,z9,W,X,a4,a5,a6,a7,a8,a9,b0,b1,b2,b3⟩:=h3.cells;have f0:=Y.free h3 1;have f1:=Y.free h3 14;have f2:=Y.free h3 15;have hz:=h3.lt;have hl:=h1.lt;refine jw (w+1+1) [0,1,2,3,4,5,6] 5 (by kernel_rfl) rfl (by kernel_rfl) (by kernel_rfl) (fun _ _ o _ _ h=>by cases o<;>exact h) ?_
 iterate 7
  refine jW (v:=?_) rfl (by rfl) ?_ ?_;rotate_left
  .intro y B
   obtain⟨y0,y1,y2,y3,y4,y5,y6,y7,y8,y9,D,E,F,H,L,M,N,P,Q,R,S,T⟩:=Y.cells (Y.go h1 (gJ (k:=1) B) (by omega));go_simp
   with_reducible rfl
  try simp only[V]
 refine mB ?_;refine ia (i:=7) (by kernel_rfl) rfl rfl (fun K b=>?_);go_simp;refine b _ _ (iQ (aa _)) ?_;clear b K;refine ia (i:=8) (by kernel_rfl) rfl rfl (fun K b=>?_);go_simp;refine b _ _ (TH _ _) ?_;clear b K;refine ia (i:=9) (by kernel_rfl) rfl rfl (fun K b=>?_);go_simp;refine b _ _ (iQ (aa _)) ?_;clear b K;refine ia (i:=10) (by kernel_rfl) rfl rfl (fun K b=>?_);go_simp;refine b _ _ (TH _ _) ?_;clear b K;refine ia (i:=11) (by kernel_rfl) rfl rfl (fun K b=>?_);go_simp;refine b _ _ (iQ (aa _)) ?_;clear b K;refine lH (by kernel_rfl) ?_
 go_upto_region 14 with fail
 have f:=il (k:=15) (v:=.int .i64 hole) (il (k:=14) (v:=.int .i64 semi) (il (k:=1) (v:=.int .i64 curv) (h3)));simp only[aZ,aW]at f;have r:=(gF (gF (gF h2 ⟨w.heap.size+1+1,1,none⟩ (by show w.heap.size+1+1≠w.heap.size+1;omega) (.int .i64 curv)) ⟨w.heap.size+1+1,14,none⟩ (by show w.heap.size+1+1≠w.heap.size+1;omega) (.int .i64 semi)) ⟨w.heap.size+1+1,15,none⟩ (by show w.heap.size+1+1≠w.heap.size+1;omega) (.int .i64 hole));refine gI (fun d=>d.heap[w.heap.size+1]? =some (.cells zS 70 (0,0))/\Y d (w+1+1) ⟨4,curv,0,0,0,0,0,0,0,0,0,0,thick,ik,semi,hole,0,0,0,0,0⟩ none 0 0/\Below w w d) ⟨pd r,Y.of_dr f,jA (ii (ii (ii (e) (by omega)) (by omega)) (by omega))⟩ ?_;clear e h2 h3 r f h1;rintro w3 ⟨h2,h3,e⟩
 go_wp2_with(first
  |(refine gO h3 rfl (.tmp 3) rfl rfl ?_)
  |(refine hE _ _ _ _ h2 rfl rfl (.tmp 2) (.tmp 67) rfl rfl rfl ?_;refine jJ (fun d=>Y d (w+1) ⟨4,curv,0,0,0,0,0,0,0,0,0,0,thick,ik,semi,hole,0,0,0,0,0⟩ none 0 0/\Below w w d) ⟨Y.stored h2 rfl _ _ _ _,Below.put22 e (by omega) _ _ _ _⟩ ?_;rintro w9 ⟨z,q⟩))
 exact ar (lu rfl rfl z) rfl ⟨rfl,q⟩
end Go.Proofs.YtgohdcccfkjooaaGreatDoor
