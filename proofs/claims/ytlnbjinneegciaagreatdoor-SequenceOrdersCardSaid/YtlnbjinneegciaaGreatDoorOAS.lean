import Derived.Test.YtlnbjinneegciaaGreatDoorOAQ
namespace Go.Proofs.YtlnbjinneegciaaGreatDoor
set_option linter.all false
set_option maxRecDepth 100000
set_option maxHeartbeats 1600000
open Go.Proofs.Tryz Go.RowKit
def nR{o:Oper}{a:Act}{K:Act->World->Prop}{Q:Exit->Act->World->Prop}{T e:TypeId}{z:Value}{k b:Nat}(f:prog.underlying e=some (.slice T))(q:(prog.info? T).map (fun i=>(i.zero,i.size,i.bytes))=some (some z,k,b))(y:z.cells.size=k)(r:0<k)(g:b<=10000)(s x:Operand)
 (w:o.op=.call {callee:=.builtin .append,args:=#[s,x],argTypes:=#[e,e]})(base:Nat)(W:World)(v:Value)(n B0:Nat)(xs cs:List Value)
 (hs:a.eval s=v)(hrow:W.ownsRow base T k v n xs)(hnew:W.heap[B0]? =some (.cells cs.toArray T (0,0)))(hx:a.eval x=.slice (J B0) 1 1)(hcl:cs.length=k)(h1:∀u∈cs,u.oneCell'=true)(hlen:n<=1000000)(hbase:base<=W.heap.size)
 (h:∀g2 cap w',w'.ownsRow base T k (.slice (J g2) (n+1) cap) (n+1) (xs++cs)->nI W w' v g2->base<=g2->K (a.put o.dst (.slice (J g2) (n+1) cap)) w'):
 o.wp prog a W K Q:=by
 obtain⟨i,j,l,m,p⟩:=sd q
 refine wp_append_lies _ s x e w base T i z k b f j l m p y r v n xs hs hrow (J B0) 1 1 cs hx (by omega) (World.news_of_block (cs:=cs.toArray) (t:=T) (fr:=(0,0)) hnew) h1
  (by omega) (by unfold maxLen;omega) (af (cB (show n+1<=1000001 by omega) g) (by omega)) hbase _ rfl ?_
 intro g2 cap w' c d hat hlt;exact h g2 cap w' c (LJ (TH _ _) d hat (aa _) hlt) (c.lt g2 rfl).1
def DL{ops:Array Oper}{c:List Oper}{o:Oper}{a:Act}{Q:Exit->Act->World->Prop}{T d:TypeId}{z:Value}{k b:Nat}(e:prog.underlying d=some (.slice T))(m:(prog.info? T).map (fun i=>(i.zero,i.size,i.bytes))=some (some z,k,b))(r:z.cells.size=k)(p:0<k)(f:b<=10000)
 (g:o.guard=none)(s x:Operand)
 (q:o.op=.call {callee:=.builtin .append,args:=#[s,x],argTypes:=#[d,d]})(base:Nat)(W:World)(v:Value)(n B0:Nat)(xs cs:List Value)
 (hs:a.eval s=v)(hrow:W.ownsRow base T k v n xs)(hnew:W.heap[B0]? =some (.cells cs.toArray T (0,0)))(hx:a.eval x=.slice (J B0) 1 1)(hcl:cs.length=k)(h1:∀u∈cs,u.oneCell'=true)(hlen:n<=1000000)(hbase:base<=W.heap.size)
 (h:∀g2 cap w',w'.ownsRow base T k (.slice (J g2) (n+1) cap) (n+1) (xs++cs)->nI W w' v g2->base<=g2->wpList prog ops Q c (a.put o.dst (.slice (J g2) (n+1) cap)) w'):
 wpList prog ops Q (o::c) a W:=
 eT g fun _ l=>nR e m r p f s x q base W v n B0 xs cs hs hrow hnew hx hcl h1 hlen hbase (fun g2 cap w' h2 h3 j=>l _ _ (h g2 cap w' h2 h3 j))
def sV{w w':World}{a:Option Addr}{n c:Nat}{ws:List (List UInt8)}(h:ua w a n c ws w)(b:Below w w w'):ua w' a n c ws w':=h.kept (fun k d=>b.block k d) b.size
def ym(x:gR)(ws:List (List UInt8)):jk x 5 ws=(kF ws [6,6]).map fun a=>{x with fs:=x.fs++a}:=by
 match ws with
 |[]=>rfl
 |[_]=>rfl
 |_::_::_=>rfl
def Av(x:gR)(ws:List (List UInt8)):jk x 6 ws=(kF ws [3,0]).map fun a=>{x with ws:=x.ws++a}:=by
 match ws with
 |[]=>rfl
 |[_]=>rfl
 |_::_::_=>rfl
def N1{w:World}(d e:Nat):SL (w.alloc (.cells #[.int .i64 (d:Int),.int .i64 (e:Int)] 3)).heap.size (w.alloc (.cells #[.int .i64 (d:Int),.int .i64 (e:Int)] 3)) (J (w.heap.size)) 2 2 ([d,e].map fun(x:Nat)=>(x:Int)):=by
 refine⟨rfl,aa _,fun _=>⟨w.heap.size,0,rfl,by simp,fun j a=>?_⟩⟩;have b:=TL w (.cells #[.int .i64 (d:Int),.int .i64 (e:Int)] 3)
 match j,a with
 |0,_=>exact VV b 0
 |1,_=>exact VV b 1
 |j+2,a=>omega
def Tryz.infoFieldQ:(prog.info? 91).map (fun i=>(i.zero,i.size,i.bytes))=some (some (.agg #[oZ,oZ]),2,16):=by kernel_rfl
def IF{B g:Nat}{N:Int}{cc:Nat}{D:Nat->Prop}{r:jL}{W:World}{ws:List (List UInt8)}{a:Option Addr}{n c:Nat}(h:vM B g N cc D r W)(hw:ua W a n c ws W)(hl:∀s∈ws,s.length<=100000)(hn:ws.length<=100000)(hat:r.at_<=5)(hc:cc<=100001)(hB:B<=W.heap.size)(hg:GW W):
 Calls prog 297 #[U g,Z a n c] W (iE B g N cc D ((jk r.x 5 ws).map fun y=>⟨y,((5:Nat):Int),[]⟩) W):=by
 obtain⟨f,v,s,k,m,a3,w⟩:=h;have b2:=w.gB;have z:=(TH W W).alloc (aa _) (.cells #[.int .i64 ((6:Nat):Int),.int .i64 ((6:Nat):Int)] 3);have q:=O (w.fs.own hat);have H:=O a3;have L:=O w;have Hw:=O (sV hw z);have Hl:=O hl;have Hg:=O (hg.below z);have a1:=O hat;have Hn:=O hn;have l:=O z;have a8:=O hw.1;clear a3 w hw hl hg hat hn z;go_enter func297,ntmps297;go_wp2_with fail;refine(sS ws [6,6] a _ n 2 c 2 _ Hw (N1 6 6) (by have:=a8.out;have:=Hn.out;omega) (by omega) Hl (by decide) Hg).mono ?_;rintro e o F
 cases hv:kF ws [6,6]with
 |none=>
  unfold mu at F;rw[hv]at F;obtain⟨rfl,i⟩:=F;have hb:iE B g N cc D ((jk r.x 5 ws).map fun y=>(⟨y,((5:Nat):Int),[]⟩:jL)) W iX o:=iE.bad (la (by rw[ym,hv];rfl)) (I l i) (cE (ab b2 hB));have M:=hb;clear hb hv i l Hw H L q;unfold iX at M⊢;have a6:=O M;clear M;go_wp2_with fail;exact⟨rfl,a6⟩
 |some zs=>
  have hz:=(qj _ _ _ hv);unfold mu at F;rw[hv]at F;obtain⟨⟨a2,c2,rfl,hs,b0⟩,i⟩:=F
  obtain⟨z0,t,rfl⟩:∃z0 t,zs=[z0,t]:=by
   have:zs.length=2:=by rw[hz.1,hz.2];rfl
   match zs,this with
   |[x,y],_=>exact⟨x,y,rfl⟩
  obtain⟨b,off,rfl,a5,R⟩:=hs.at (by show 0<2;omega)
  have b9:W.heap.size<b:=by have:=b0 b rfl;simp at this;omega
  have n0:o.cell? ⟨b,off,none⟩=some (.int .i64 z0):=R 0 (by show 0<2;omega);have n1:o.cell? ⟨b,off+1,none⟩=some (.int .i64 t):=R 1 (by show 1<2;omega);have c0:2<=c2:=hs.2.1;have X:=H.go (I l i);have hL:=L.go (I l i);have hr:((jk r.x 5 ws).map fun y=>(⟨y,((5:Nat):Int),[]⟩:jL))=some ⟨{r.x with fs:=r.x.fs++[z0,t]},5,[]⟩:=map_some (k:=5) (by rw[ym,hv];rfl);obtain⟨cg,fg⟩:=X.cell 5;have b3:=TK X;have b5:=hL.fs.1;have Hr:=O hr;have Hb:=O (I l i);have HA:=O X;have HL:=O hL
  have b8:B<=o.heap.size:=by have:=(I l i).size;omega
  clear hr X hL i hv hz R hs l Hw H L;obtain⟨fa,fn,fc⟩:=f
  change o.cell? ⟨g,5,none⟩=some (.slice fa fn fc)at cg
  change fn<=cc at b5
  go_upto_region 1 with fail;refine kC (S:=fun x=>x=g\/x=b) 15 [(0,true),(1,true),(2,true),(3,true),(4,true),(5,true),(6,true),(7,true),(8,true),(9,true),(10,true),(11,true),(12,true),(13,false),(14,false)] (by kernel_rfl) (by kernel_rfl) ?_
  iterate 13
   refine gU (v:=?_) ?_ ?_;rotate_left
   .intro y hy
    have k1:=(hy.cell (p:=⟨g,5,none⟩) (VR rfl)).trans cg;have k2:=(hy.cell (p:=⟨b,off,none⟩) (VS rfl)).trans n0;have k3:=(hy.cell (p:=⟨b,off+1,none⟩) (VS rfl)).trans n1;go_simp;with_reducible rfl
   try simp only[V]
  refine gP (fun K P=>?_);go_simp;refine P _ _ (fun x hx=>iC (by obtain rfl|rfl:=hx;exact b3;exact a5)) ?_;clear P K;(try simp only[V]);have d:Below o o (o.drew.alloc (.cells [Value.int .i64 z0,.int .i64 t].toArray 91)):=gY ((TH _ _).drew);have u:=HA.go d;have Q:=HL.go d;have j:=Q.fs.own a1;have a0:=ab a5 d.size
  have a9:B<=(o.drew.alloc (.cells [Value.int .i64 z0,.int .i64 t].toArray 91)).heap.size:=by have:=d.size;omega
  have C:=TK u;refine gP (fun K P=>?_);refine nR underlying33 Tryz.infoFieldQ rfl (by omega) (by omega) _ _ rfl B _ (.slice fa fn fc) fn o _ [.int .i64 z0,.int .i64 t] rfl j.row (TL o.drew _) rfl rfl (by simp[Value.oneCell']) (by omega) a9 ?_;intro g2 cap w3 E A b1;have b4:b≠g/\(Value.slice fa fn fc).ownBlock≠some b:=⟨by omega,fun e=>by have:=(gT q.row e).2;omega⟩;refine P _ _ (fun x hx=>A.kept x (by obtain rfl|rfl:=hx;exact C;exact a0) (by obtain rfl|rfl:=hx;exact(fun e=>by have:=(gT j.row e).1;omega);exact b4.2)) ?_;clear P K;have a4:=(A.kept g C (fun e=>by have:=(gT j.row e).1;omega)).trans u;obtain⟨b6,b7⟩:=jm.cell a4 5;have HA:=O u;have HL:=O Q;have Hb:=O (I Hb d);have T:=O E;have a7:=O A;clear u Q j d E A a4 cg fg n0 n1;(try simp only[V]);refine iu rfl ?_;go_wp2;go_end0;exact FK Hr Hb HA HL T a7 b1 a1 hc hB
def Tryz.infoWaveQ:(prog.info? 93).map (fun i=>(i.zero,i.size,i.bytes))=some (some (.agg #[oZ,oZ]),2,16):=by kernel_rfl
def LQ{B g:Nat}{N:Int}{cc:Nat}{D:Nat->Prop}{r:jL}{W:World}{ws:List (List UInt8)}{a:Option Addr}{n c:Nat}(h:vM B g N cc D r W)(hw:ua W a n c ws W)(hl:∀s∈ws,s.length<=100000)(hn:ws.length<=100000)(hat:r.at_<=6)(hc:cc<=100001)(hB:B<=W.heap.size)(hg:GW W):
 Calls prog 298 #[U g,Z a n c] W (iE B g N cc D ((jk r.x 6 ws).map fun y=>⟨y,((6:Nat):Int),[]⟩) W):=by
 obtain⟨f,v,s,k,m,a3,w⟩:=h;have b2:=w.gB;have z:=(TH W W).alloc (aa _) (.cells #[.int .i64 ((3:Nat):Int),.int .i64 ((0:Nat):Int)] 3);have q:=O (w.ws.own hat);have H:=O a3;have L:=O w;have Hw:=O (sV hw z);have Hl:=O hl;have Hg:=O (hg.below z);have a1:=O hat;have Hn:=O hn;have l:=O z;have a8:=O hw.1;clear a3 w hw hl hg hat hn z;go_enter func298,ntmps298;go_wp2_with fail;refine(sS ws [3,0] a _ n 2 c 2 _ Hw (N1 3 0) (by have:=a8.out;have:=Hn.out;omega) (by omega) Hl (by decide) Hg).mono ?_;rintro e o F
 cases hv:kF ws [3,0]with
 |none=>
  unfold mu at F;rw[hv]at F;obtain⟨rfl,i⟩:=F;have hb:iE B g N cc D ((jk r.x 6 ws).map fun y=>(⟨y,((6:Nat):Int),[]⟩:jL)) W iX o:=iE.bad (la (by rw[Av,hv];rfl)) (I l i) (cE (ab b2 hB));have M:=hb;clear hb hv i l Hw H L q;unfold iX at M⊢;have a6:=O M;clear M;go_wp2_with fail;exact⟨rfl,a6⟩
 |some zs=>
  have hz:=(qj _ _ _ hv);unfold mu at F;rw[hv]at F;obtain⟨⟨a2,c2,rfl,hs,b0⟩,i⟩:=F
  obtain⟨z0,t,rfl⟩:∃z0 t,zs=[z0,t]:=by
   have:zs.length=2:=by rw[hz.1,hz.2];rfl
   match zs,this with
   |[x,y],_=>exact⟨x,y,rfl⟩
  obtain⟨b,off,rfl,a5,R⟩:=hs.at (by show 0<2;omega)
  have b9:W.heap.size<b:=by have:=b0 b rfl;simp at this;omega
  have n0:o.cell? ⟨b,off,none⟩=some (.int .i64 z0):=R 0 (by show 0<2;omega);have n1:o.cell? ⟨b,off+1,none⟩=some (.int .i64 t):=R 1 (by show 1<2;omega);have c0:2<=c2:=hs.2.1;have X:=H.go (I l i);have hL:=L.go (I l i);have hr:((jk r.x 6 ws).map fun y=>(⟨y,((6:Nat):Int),[]⟩:jL))=some ⟨{r.x with ws:=r.x.ws++[z0,t]},6,[]⟩:=map_some (k:=6) (by rw[Av,hv];rfl);obtain⟨cg,fg⟩:=X.cell 6;have b3:=TK X;have b5:=hL.ws.1;have Hr:=O hr;have Hb:=O (I l i);have HA:=O X;have HL:=O hL
  have b8:B<=o.heap.size:=by have:=(I l i).size;omega
  clear hr X hL i hv hz R hs l Hw H L;obtain⟨fa,fn,fc⟩:=v
  change o.cell? ⟨g,6,none⟩=some (.slice fa fn fc)at cg
  change fn<=cc at b5
  go_upto_region 1 with fail;refine kC (S:=fun x=>x=g\/x=b) 15 [(0,true),(1,true),(2,true),(3,true),(4,true),(5,true),(6,true),(7,true),(8,true),(9,true),(10,true),(11,true),(12,true),(13,false),(14,false)] (by kernel_rfl) (by kernel_rfl) ?_
  iterate 13
   refine gU (v:=?_) ?_ ?_;rotate_left
   .intro y hy
    have k1:=(hy.cell (p:=⟨g,6,none⟩) (VR rfl)).trans cg;have k2:=(hy.cell (p:=⟨b,off,none⟩) (VS rfl)).trans n0;have k3:=(hy.cell (p:=⟨b,off+1,none⟩) (VS rfl)).trans n1;go_simp;with_reducible rfl
   try simp only[V]
  refine gP (fun K P=>?_);go_simp;refine P _ _ (fun x hx=>iC (by obtain rfl|rfl:=hx;exact b3;exact a5)) ?_;clear P K;(try simp only[V]);have d:Below o o (o.drew.alloc (.cells [Value.int .i64 z0,.int .i64 t].toArray 93)):=gY ((TH _ _).drew);have u:=HA.go d;have Q:=HL.go d;have j:=Q.ws.own a1;have a0:=ab a5 d.size
  have a9:B<=(o.drew.alloc (.cells [Value.int .i64 z0,.int .i64 t].toArray 93)).heap.size:=by have:=d.size;omega
  have C:=TK u;refine gP (fun K P=>?_);refine nR underlying34 Tryz.infoWaveQ rfl (by omega) (by omega) _ _ rfl B _ (.slice fa fn fc) fn o _ [.int .i64 z0,.int .i64 t] rfl j.row (TL o.drew _) rfl rfl (by simp[Value.oneCell']) (by omega) a9 ?_;intro g2 cap w3 E A b1;have b4:b≠g/\(Value.slice fa fn fc).ownBlock≠some b:=⟨by omega,fun e=>by have:=(gT q.row e).2;omega⟩;refine P _ _ (fun x hx=>A.kept x (by obtain rfl|rfl:=hx;exact C;exact a0) (by obtain rfl|rfl:=hx;exact(fun e=>by have:=(gT j.row e).1;omega);exact b4.2)) ?_;clear P K;have a4:=(A.kept g C (fun e=>by have:=(gT j.row e).1;omega)).trans u;obtain⟨b6,b7⟩:=jm.cell a4 6;have HA:=O u;have HL:=O Q;have Hb:=O (I Hb d);have T:=O E;have a7:=O A;clear u Q j d E A a4 cg fg n0 n1;(try simp only[V]);refine iu rfl ?_;go_wp2;go_end0;exact IC Hr Hb HA HL T a7 b1 a1 hc hB
def SH{W':World}{g:Nat}{x:gR}{a:Int}{f v s k:iJ}{m:Value}{g2 n cap:Nat}(d:jm W' g x a f v s k m){c:World}(e:c=((W'.setCell ⟨g,7,none⟩ (.slice (J g2) n cap)).alloc (.map #[] 0)).setCell ⟨g,10,none⟩ (.map (some W'))):
 jm c g x a f v ⟨some ⟨g2,0,none⟩,n,cap⟩ k (.map (some W'))/\oC c W' []/\(∀b,b≠g->b<W'.heap.size->c.heap[b]? =W'.heap[b]?)/\Below g W' c:=by
 subst e;have hlt:=TK d;have h1:jm (W'.setCell ⟨g,7,none⟩ (.slice (J g2) n cap)) g x a f v ⟨some ⟨g2,0,none⟩,n,cap⟩ k m:=nJ d rfl
 have h:(W'.setCell ⟨g,7,none⟩ (.slice (J g2) n cap)).heap.size=W'.heap.size:=by simp
 have h2:jm ((W'.setCell ⟨g,7,none⟩ (.slice (J g2) n cap)).alloc (.map #[] 0)) g x a f v ⟨some ⟨g2,0,none⟩,n,cap⟩ k m:=(iC (by omega)).trans h1;refine⟨nJ h2 rfl,⟨#[],0,(iS (by omega)).trans (ku h),rfl⟩,fun b h3 i=>(iS h3).trans ((iC (by omega)).trans (iS h3)),?_⟩;exact kZ ((kZ (TH g W') (aa _)).alloc (by omega) _) (aa _)
def wF(z:Int):gW:=⟨z,0,0,0,0,0,0,0,0,0,0,0,0,⟨#[]⟩,0,0,0,0,0,0,0⟩
def N2{W':World}{g:Nat}{x:gR}{a:Int}{f v s k:iJ}{m:Value}(g2 n cap:Nat)(b:jm W' g x a f v s k m):((W'.setCell ⟨g,7,none⟩ (.slice (J g2) n cap)).alloc (.map #[] 0)).cell? ⟨g,10,none⟩=some m/\((W'.setCell ⟨g,7,none⟩ (.slice (J g2) n cap)).alloc (.map #[] 0)).frozen? ⟨g,10,none⟩=false:=by
 have hlt:=TK b;have h1:jm (W'.setCell ⟨g,7,none⟩ (.slice (J g2) n cap)) g x a f v ⟨some ⟨g2,0,none⟩,n,cap⟩ k m:=nJ b rfl;have h2:jm ((W'.setCell ⟨g,7,none⟩ (.slice (J g2) n cap)).alloc (.map #[] 0)) g x a f v ⟨some ⟨g2,0,none⟩,n,cap⟩ k m:=(iC (by simp;omega)).trans h1;exact jm.cell h2 10
def xq.go{α:Type}{R:pB α}{k:Nat}(ok:kR k R){T:TypeId}{B:Nat}{D:Nat->Prop}{W W':World}{p:iJ}{l:List α}{css:List (List Value)}(h:xq R k T B D W p l css)(c:Below W W W'):xq R k T B D W' p l css:=
 ⟨kD h.row c,h.len,h.n,h.k,fun i x cs h1 h2=>ok.kept (h.rep i x cs h1 h2) (fun b a=>c.block b a.2.1) (fun b a=>⟨a.1,ab a.2.1 c.size,a.2.2⟩),h.inD⟩
def Aw(x:gR)(v:List UInt8):jk x 7 [v]=(kP.findIdx? (· ==v)).map fun i=>{x with l:=x.l++[lJ (i+1)]}:=rfl
def qN{l:List (List UInt8)}{s:List UInt8}{i:Nat}(h:l.findIdx? (· ==s)=some i):i<l.length:=by
 rw[fm]at h;exact h.1
def DM{B g:Nat}{w:Int}{cc:Nat}{D:Nat->Prop}{r:jL}{W:World}{ws:List (List UInt8)}{a:Option Addr}{n c N:Nat}(h:vM B g w cc D r W)(hw:ua W a n c ws W)(hat:r.at_<=7)(hc:cc<=100001)(hB:B<=W.heap.size)(hT:TW N W)(hN:N<=W.heap.size):
 Calls prog 299 #[U g,Z a n c] W (iE B g w cc D ((jk r.x 7 ws).map fun y=>⟨y,((7:Nat):Int),[]⟩) W):=by
 have c1:g<B:=by obtain⟨f,v,s,k,m,M,F⟩:=h;exact F.gB
 obtain⟨ka,kn,kc,hk,S⟩:=hT.kin;have a6:2<W.heap.size:=ab (ab (show 2<14 by decide) hT.glo) hN;have A:Below W W W.drew:=⟨rfl,rfl,rfl,aa _,fun _ _=>rfl⟩;have c4:=@run_makeMap prog;have b3:kn=4:=S.1.symm;subst b3;have Hk:=O (show ua W.drew ka 4 kc kP N from S.kept (fun _ _=>rfl) (aa _));have H:=O (h.go A);have Hw:=O (sV hw A);have a5:=O hat;have L:=O A;have R:W.drew.cell? (J 2)=some (.slice ka 4 kc):=hk;have a1:2<W.drew.heap.size:=a6;clear h hw hat S hT A hk a6;go_enter func299,ntmps299;go_upto_region 0 with fail;refine gS 4 [(0,true),(1,true),(2,false),(3,false)] (by kernel_rfl) (by kernel_rfl) ?_
 iterate 2
  refine gU (v:=?_) ?_ ?_;rotate_left
  .intro y hy
   have k1:=(hy.cell (p:=J 2) a1).trans R;go_simp;with_reducible rfl
  try simp only[V]
 refine gP (fun KK u=>?_);go_simp;refine(nF ws a n c _ W.drew Hw).mono ?_;rintro e w1 ⟨he,rfl⟩
 obtain ⟨x,rfl,rfl⟩|⟨b4,rfl⟩:=lF he
 .refine u _ _ (TH _ _) ?_
  clear u KK he;(try simp only[V]);refine gP (fun KK u=>?_);go_simp;refine(Ar kP x ka 4 kc N W.drew Hk hN (by omega)).mono ?_;rintro e j ⟨rfl,d⟩;refine u _ _ d ?_;clear u KK;(try simp only[V]);refine iu rfl ?_
  cases hi:kP.findIdx? (· ==x)with
  |none=>
   have hb:iE B g w cc D ((jk r.x 7 [x]).map fun y=>(⟨y,((7:Nat):Int),[]⟩:jL)) W iX j:=iE.bad (la (by rw[Aw,hi];rfl)) (L.trans d) (by omega);have b:=hb;clear hb hi d R;unfold Lj;unfold iX at b;have K:=O b;clear b;go_wp2_with fail;refine(lm j).mono ?_;rintro e w3 ⟨rfl,rfl⟩;unfold iX;go_wp2_with fail;exact⟨rfl,K⟩
  |some i=>
   have c2:i<4:=qN hi;have hr:((jk r.x 7 [x]).map fun y=>(⟨y,((7:Nat):Int),[]⟩:jL))=some ⟨{r.x with l:=r.x.l++[lJ (i+1)]},7,[]⟩:=map_some (k:=7) (by rw[Aw,hi];rfl);obtain⟨f,v,s,k,m,M,F⟩:=H.go d;have b5:=F.l.1;obtain⟨css,hO⟩:=F.l.own a5 (by omega);obtain⟨cg,fg⟩:=M.cell 7;have c3:=TK M
   have c0:B<=j.heap.size:=by have:=d.size;exact af hB this
   have Hr:=O hr;have HA:=O M;have HL:=O F;have HO:=O hO;have T:=O (L.trans d);clear hr M F hO d hi Hk H Hw R;obtain⟨sa,sn,sc⟩:=s
   change j.cell? ⟨g,7,none⟩=some (.slice sa sn sc)at cg
   change sn<=cc at b5
   unfold Lj;go_wp2_with fail;refine(kW j).mono ?_;rintro e w3 ⟨rfl,rfl⟩;have q:Below j j (j.alloc (.cells (gX (wF ((i:Int)+1)) none 0 0).toArray 64)):=(TH _ _).alloc (aa _) _;have P:=HA.go q;have a3:=O P;have a8:=O (HL.go q);have a2:=TK P;have t:=kD HO.row q;have C:=HO.inD
   have b1:B<=(j.alloc (.cells (gX (wF ((i:Int)+1)) none 0 0).toArray 64)).heap.size:=by have:=q.size;omega
   have X:=O (TL j (.cells (gX (wF ((i:Int)+1)) none 0 0).toArray 64));have a4:=O q;have o:=O t;have b6:=O C;clear q t C P
   go_wp2_with(refine DL underlying35 Tryz.infoSurf3 rfl (by omega) (by omega) rfl _ _ rfl B _ (.slice sa sn sc) sn j _ (gX (wF ((i:Int)+1)) none 0 0) rfl o X rfl rfl (by simp[Value.oneCell',gX]) (by omega) b1 ?_;intro g2 cap w5 E Q b2;have z:=(Q.kept g a2 (fun e=>by have:=(gT o e).1;omega)).trans a3;obtain⟨b0,b9⟩:=jm.cell z 7;change w5.cell? ⟨g,7,none⟩=some (.slice sa sn sc)at b0;obtain⟨b7,b8⟩:=N2 g2 (sn+1) cap z;have a0:=O E;have a9:=O Q;have a7:=O z;clear E Q z cg fg)
   go_end0;obtain⟨q1,q2,q3,q4⟩:=SH (g2:=g2) (n:=sn+1) (cap:=cap) a7 rfl;exact Bp Hr (I T a4) a3 a8 (HO.go iD a4) a0 a9 b2 a5 hc hB q1 q2 (aa _) q3 q4
 .have T:=O (show iE B g w cc D ((jk r.x 7 ws).map fun y=>(⟨y,((7:Nat):Int),[]⟩:jL)) W iX W.drew from iE.bad (la (oX (by omega) b4)) L (by omega))
  have b:=T.out;unfold iX at b⊢;have K:=O b;clear b T;exact⟨rfl,K⟩
def IG(x:gR)(v:List UInt8):jk x 8 [v]=some {x with cf:=x.cf++[⟨bs v,[]⟩]}:=rfl
def Tryz.infoConfQ:(prog.info? 77).map (fun i=>(i.zero,i.size,i.bytes))=some (some (.agg #[.string {data:=#[]},oN]),2,40):=by kernel_rfl
def FO{B g:Nat}{E:Int}{cc:Nat}{D:Nat->Prop}{r:jL}{W:World}{ws:List (List UInt8)}{a:Option Addr}{n c:Nat}(h:vM B g E cc D r W)(hw:ua W a n c ws W)(hl:∀s∈ws,s.length<=100000)(hat:r.at_<=8)(hc:cc<=100001)(hB:B<=W.heap.size):
 Calls prog 300 #[U g,Z a n c] W (iE B g E cc D ((jk r.x 8 ws).map fun y=>⟨y,((8:Nat):Int),[]⟩) W):=by
 have l:Below W W W.drew:=⟨rfl,rfl,rfl,aa _,fun _ _=>rfl⟩;obtain⟨f,v,s,k,m,H,w⟩:=h.go l;have b3:=w.gB;have a9:=w.cf.1;have b2:=w.c1;obtain⟨css,hO⟩:=w.cf.own hat (by omega);obtain⟨P,fg⟩:=H.cell 8;have a7:=TK H;have b1:B<=W.drew.heap.size:=hB;have Hw:=O (sV hw l);have a1:=O hat;have M:=O l;have HA:=O H;have HL:=O w;have T:=O hO;have Hl:=O hl;clear h hw hat l H w hO hl;obtain⟨K,kn,L⟩:=k
 change W.drew.cell? ⟨g,8,none⟩=some (.slice K kn L)at P
 change kn<=cc at a9
 go_enter func300,ntmps300;refine kC (S:=fun x=>x=g) 11 [(0,true),(1,true),(2,true),(3,true),(4,true),(5,true),(6,true),(7,false),(8,true),(9,false),(10,false)] (by kernel_rfl) (by kernel_rfl) ?_
 iterate 7
  refine gU (v:=?_) ?_ ?_;rotate_left
  .intro y z
   have k1:=(z.cell (p:=⟨g,8,none⟩) rfl).trans P;go_simp;with_reducible rfl
  try simp only[V]
 refine gP (fun C d=>?_);go_simp;refine(nF ws a n c _ W.drew Hw).mono ?_;rintro e w1 ⟨he,rfl⟩
 obtain ⟨x,rfl,rfl⟩|⟨a8,rfl⟩:=lF he
 .refine d _ _ (gN.refl _ _) ?_
  clear d C he;try simp only[V]
  iterate 1
   refine gU (v:=?_) ?_ ?_;rotate_left
   .intro y z
    skip;go_simp;with_reducible rfl
   try simp only[V]
  have hx:=Hl x (by simp);have i:Below W.drew W.drew (W.drew.alloc (.cells [Value.string (bs x),oN].toArray 77)):=(TH _ _).alloc (aa _) _;have j:=HA.go i;have t:=TK j;have b:=kD T.row i
  have a5:B<=(W.drew.alloc (.cells [Value.string (bs x),oN].toArray 77)).heap.size:=by have:=i.size;omega
  refine gP (fun C d=>?_);go_simp;refine d _ _ (fun y z=>iC (by cases z;exact a7)) ?_;clear d C;(try simp only[V]);refine gP (fun C d=>?_);refine nR underlying36 Tryz.infoConfQ rfl (by omega) (by omega) _ _ rfl B _ (.slice K kn L) kn W _ [.string (bs x),oN] rfl b (TL W.drew _) rfl rfl (by simp[Value.oneCell']) (by omega) a5 ?_;intro g2 cap w5 u q a6
  have o:(Value.slice K kn L).ownBlock≠some g:=fun e=>by have:=(gT b e).1;omega
  refine d _ _ (fun y z=>by cases z;exact q.kept g t o) ?_;clear d C;have N:=(q.kept g t o).trans j;obtain⟨a4,b0⟩:=jm.cell N 8
  change w5.cell? ⟨g,8,none⟩=some (.slice K kn L)at a4
  have Q:=O j;have R:=O (HL.go i);have X:=O (T.go ky i);have a0:=O (M.trans i);have F:=O u;have a3:=O q;have Hx:=O hx;clear j i u q b N P fg hx;(try simp only[V]);refine iu rfl ?_;go_wp2;go_end0;exact DI (map_some (k:=8) (IG _ _)) (by rw[Tb];have:=Hx.out;omega) a0 Q R X F a3 a6 a1 hc hB
 .have Hb:=O (show iE B g E cc D ((jk r.x 8 ws).map fun y=>(⟨y,((8:Nat):Int),[]⟩:jL)) W iX W.drew from iE.bad (la (oX (by omega) a8)) M (by omega))
  have A:=Hb.out;unfold iX at A⊢;have a2:=O A;clear A Hb;exact⟨rfl,a2⟩
def lX(r:jL)(a:List UInt8)(ws:List (List UInt8)):Option jL:=
 if a≠lG/\a∈r.seen then none else(ou r.x.l fun y=>Ad y (a::ws)).map fun l=>⟨{r.x with l:=l},7,if a=lG then r.seen else r.seen++[a]⟩
def qf{α:Type}(l0:List α)(y:α)(f:α->Option α):ou (l0++[y]) f=(f y).map fun z=>l0++[z]:=by
 unfold ou;simp
def sW{r:jL}{l0:List gM}{y:gM}(a:r.x.l=l0++[y])(ws:List (List UInt8)):lX r lG ws=(kF ws [7,0,0]).map fun b=>⟨{r.x with l:=l0++[⟨y.s,y.zs++b⟩]},7,r.seen⟩:=by
 unfold lX;rw[aj (by simp),a,qf];unfold Ad;simp only[bX];cases kF ws [7,0,0] <;>rfl
def IH{r:jL}{a:List UInt8}{ws:List (List UInt8)}(h1:a≠lG)(h2:a∈r.seen):lX r a ws=none:=by
 unfold lX;rw[aq ⟨h1,h2⟩]
def LR{r:jL}{a:List UInt8}{ws:List (List UInt8)}(h1:a≠lG)(h2:ws.length≠1):lX r a ws=none:=by
 unfold lX;split
 .rfl
 .have b:∀y,Ad y (a::ws)=none:=fun y=>by
   unfold Ad;simp only[aj h1]
   match ws,h2 with
   |[],_=>rfl
   |[v],h=>simp at h
   |_::_::_,_=>rfl
  unfold ou
  cases r.x.l.getLast? with
  |none=>rfl
  |some y=>simp[b]
def nS{r:jL}{l0:List gM}{y:gM}(b:r.x.l=l0++[y]){a v:List UInt8}(h1:a≠lG)(h2:a ∉ r.seen):lX r a [v]=if a=lP then some ⟨{r.x with l:=l0++[⟨{y.s with e9:=bs v},y.zs⟩]},7,r.seen++[a]⟩else match Dv a with
 |none=>none
 |some d=>(VZ v d).map fun n=>⟨{r.x with l:=l0++[⟨Ac y.s a n,y.zs⟩]},7,r.seen++[a]⟩:=by
 unfold lX;rw[aj (fun h=>h2 h.2),b,qf];unfold Ad;simp only[aj h1];split
 .rfl
 .cases Dv a with
  |none=>rfl
  |some d=>cases hv:VZ v d<;>simp[hv]
def JQ(s:List UInt8):∀ks:List (List UInt8),rx (bs s) (ks.map bs)=decide (s∈ks)
 |[]=>rfl
 |k::ks=>by
  have a:=JQ s ks;unfold rx at a⊢;rw[aN,eN,a,NC];by_cases h:s=k
  .subst h;simp
  .have:(s==k)=false:=by rw[ak];exact h
   rw[this];simp[h]
structure DN (fid:FuncId) (off d:Nat) (fw:List UInt8):Prop where
 call:∀b k w,Calls prog fid #[.pointer (some ⟨b,k,none⟩)] w fun e w'=>e=.returned (.pointer (some ⟨b,k+off,none⟩))/\w=w'
 ent:∀args w,(callFunc fid args).run prog w=.ok (.enter fid args) w
 dig:Dv fw=some d
 lt:off<22
 d18:d<=18
 set:∀s a n c z,(gX s a n c).set off (.int .i64 z)=gX (Ac s fw z) a n c
 e9:∀s z,(Ac s fw z).e9=s.e9
def ug{a:List UInt8}{i:Nat}(h:kO.findIdx? (· ==a)=some i):rD a=some (i+1):=by unfold rD;rw[h];rfl
def yo{a:List UInt8}(h:kO.findIdx? (· ==a)=none):rD a=none:=by unfold rD;rw[h];rfl
def yP(p:Nat):oo p<=18:=by unfold oo;split;omega;split<;>omega
def N3(args:Array Value)(w:World):(callFunc 273 args).run prog w=.ok (.enter 273 args) w:=by kernel_rfl
def N4(args:Array Value)(w:World):(callFunc 274 args).run prog w=.ok (.enter 274 args) w:=by kernel_rfl
def N5(args:Array Value)(w:World):(callFunc 275 args).run prog w=.ok (.enter 275 args) w:=by kernel_rfl
def N6(args:Array Value)(w:World):(callFunc 276 args).run prog w=.ok (.enter 276 args) w:=by kernel_rfl
def N7(args:Array Value)(w:World):(callFunc 277 args).run prog w=.ok (.enter 277 args) w:=by kernel_rfl
def N8(args:Array Value)(w:World):(callFunc 278 args).run prog w=.ok (.enter 278 args) w:=by kernel_rfl
def N9(args:Array Value)(w:World):(callFunc 279 args).run prog w=.ok (.enter 279 args) w:=by kernel_rfl
def Oc(args:Array Value)(w:World):(callFunc 280 args).run prog w=.ok (.enter 280 args) w:=by kernel_rfl
def Od(args:Array Value)(w:World):(callFunc 281 args).run prog w=.ok (.enter 281 args) w:=by kernel_rfl
def LS(args:Array Value)(w:World):(callFunc 282 args).run prog w=.ok (.enter 282 args) w:=by kernel_rfl
def LT(args:Array Value)(w:World):(callFunc 283 args).run prog w=.ok (.enter 283 args) w:=by kernel_rfl
def LU(args:Array Value)(w:World):(callFunc 284 args).run prog w=.ok (.enter 284 args) w:=by kernel_rfl
def TY(args:Array Value)(w:World):(callFunc 285 args).run prog w=.ok (.enter 285 args) w:=by kernel_rfl
def LW(args:Array Value)(w:World):(callFunc 286 args).run prog w=.ok (.enter 286 args) w:=by kernel_rfl
def LX(args:Array Value)(w:World):(callFunc 287 args).run prog w=.ok (.enter 287 args) w:=by kernel_rfl
def LY(args:Array Value)(w:World):(callFunc 288 args).run prog w=.ok (.enter 288 args) w:=by kernel_rfl
def LZ(args:Array Value)(w:World):(callFunc 289 args).run prog w=.ok (.enter 289 args) w:=by kernel_rfl
def Cw(i:Nat)(hi:i<17):∀args w,(callFunc (QB i) args).run prog w=.ok (.enter (QB i) args) w:=by
 match i,hi with
 |0,_=>exact N3
 |1,_=>exact N4
 |2,_=>exact N5
 |3,_=>exact N6
 |4,_=>exact N7
 |5,_=>exact N8
 |6,_=>exact N9
 |7,_=>exact Oc
 |8,_=>exact Od
 |9,_=>exact LS
 |10,_=>exact LT
 |11,_=>exact LU
 |12,_=>exact TY
 |13,_=>exact LW
 |14,_=>exact LX
 |15,_=>exact LY
 |16,_=>exact LZ
 |i+17,hi=>omega
def L0{e:List UInt8}{i:Nat}(h:kO.findIdx? (· ==e)=some i):DN (QB i) (Iv i) (oo (i+1)) e:=by
 have hi:i<17:=qN h;have d:=ug h;refine⟨fun b k w=>JN i hi b k w,Cw i hi,by unfold Dv;rw[d],?_,yP _,fun s a n c z=>?_,fun s z=>?_⟩
 .have:∀i,i<17->Iv i<22:=by decide
  exact this i hi
 .unfold Ac;rw[d]
  match i,hi with
  |0,_=>rfl
  |1,_=>rfl
  |2,_=>rfl
  |3,_=>rfl
  |4,_=>rfl
  |5,_=>rfl
  |6,_=>rfl
  |7,_=>rfl
  |8,_=>rfl
  |9,_=>rfl
  |10,_=>rfl
  |11,_=>rfl
  |12,_=>rfl
  |13,_=>rfl
  |14,_=>rfl
  |15,_=>rfl
  |16,_=>rfl
  |i+17,hi=>omega
 .unfold Ac;rw[d]
  match i,hi with
  |0,_=>rfl
  |1,_=>rfl
  |2,_=>rfl
  |3,_=>rfl
  |4,_=>rfl
  |5,_=>rfl
  |6,_=>rfl
  |7,_=>rfl
  |8,_=>rfl
  |9,_=>rfl
  |10,_=>rfl
  |11,_=>rfl
  |12,_=>rfl
  |13,_=>rfl
  |14,_=>rfl
  |15,_=>rfl
  |16,_=>rfl
  |i+17,hi=>omega
def Ax:DN 290 15 6 lB:=
 ⟨fun b k w=>NN b k w,fun args w=>by kernel_rfl,by decide,by omega,by omega,fun s a n c z=>rfl,fun s z=>rfl⟩
def yq:DN 291 11 0 kj:=
 ⟨fun b k w=>Ls b k w,fun args w=>by kernel_rfl,by decide,by omega,by omega,fun s a n c z=>rfl,fun s z=>rfl⟩
def Xq{a:List UInt8}(h:kO.findIdx? (· ==a)=none)(h1:a≠lB)(h2:a≠kj):Dv a=none:=by
 unfold Dv;rw[yo h];simp only[aj h1,aj h2]
def my.cell{B:Nat}{D:Nat->Prop}{W:World}{c:Nat}{p:iJ}{m:Value}{l:List gM}{seen:List (List UInt8)}{l0:List gM}{y:gM}{css:List (List Value)}{q:iJ}{b cap i:Nat}(h:my B D W c p m l seen l0 y css q b cap i){j:Nat}(t:j<22):W.cell? ⟨b,l0.length*22+j,none⟩=(gX y.s q.a q.n q.c)[j]? /\W.frozen? ⟨b,l0.length*22+j,none⟩=false:=by
 obtain ⟨e,_⟩|⟨r,g,o,e,u,f,v,w,x,k⟩:=h.row.2
 .cases e
 .cases e
  refine⟨?_,gD f _⟩;rw[VV f];have d:=ai (fun l=>l[l0.length*22+j]?) k;rw[cZ,aq (by omega),aY (by rw[h.flat];omega),h.flat,dR]at d;rw[<- d];simp
def qL.cell{B:Nat}{D:Nat->Prop}{W:World}{c:Nat}{p:iJ}{l l0:List jd}{y:jd}{css:List (List Value)}{q:iJ}{b cap:Nat}(h:qL B D W c p l l0 y css q b cap){j:Nat}(o:j<2):W.cell? ⟨b,l0.length*2+j,none⟩=[Value.string y.nm,.slice q.a q.n q.c][j]? /\W.frozen? ⟨b,l0.length*2+j,none⟩=false:=by
 obtain ⟨e,_⟩|⟨m,g,k,e,r,f,s,t,u,i⟩:=h.row.2
 .cases e
 .cases e
  refine⟨?_,gD f _⟩;rw[VV f];have d:=ai (fun l=>l[l0.length*2+j]?) i;rw[cZ,aq (by omega),aY (by rw[h.flat];omega),h.flat,dR]at d;rw[<- d];simp
def Ay{W:World}{A c B:Nat}{v:List UInt8}{ws:List (List UInt8)}(h:ua W (J A) (ws.length+1) c (v::ws) B):ua W (some ⟨A,1,none⟩) ws.length (c-1) ws B:=by
 obtain⟨_,h2,h3⟩:=h;refine⟨rfl,by omega,fun h0=>?_⟩;obtain⟨g,off,e,a,h5⟩:=h3 (by omega);cases e;refine⟨A,1,rfl,a,fun j x b=>?_⟩;have:=h5 (j+1) x (by simpa using b);rw[show(1:Nat)+j=0+(j+1)by omega];exact this
def sT.word{B:Nat}{D:Nat->Prop}{W:World}{T:TypeId}{k:Nat}{p:iJ}{zs:List Int}(h:sT B D W T k p zs)(r:0<k){A:Nat}{s:ByteArray}(l:W.cell? (J A)=some (.string s)):p.v.ownBlock≠some A:=by
 intro e;obtain⟨a,n,c⟩:=p;have f:=h.pos;have d:=h.row
 cases a with
 |none=>cases e
 |some o=>
  have q:o.block=A:=by simpa[iJ.v,Value.ownBlock]using e
  have t:0<n:=bq fun h0=>by cases f h0
  rcases(mz d).2 with⟨i,_⟩|⟨g,cap,i,_,_,b⟩
  .cases i
  .cases i
   have m:=d.1;rw[aU]at m
   have h0:0<(zs.map (Value.int .i64)).length:=by rw[aU,m];exact dZ t r
   have:=b.cell (j:=0) h0;rw[<- q]at l;rw[l]at this;simp at this
def my.go{B:Nat}{D:Nat->Prop}{W W':World}{c:Nat}{p:iJ}{m:Value}{l:List gM}{seen:List (List UInt8)}{l0:List gM}{y:gM}{css:List (List Value)}{q:iJ}{a cap d:Nat}(h:my B D W c p m l seen l0 y css q a cap d)(e:Below W W W'):my B D W' c p m l seen l0 y css q a cap d:=h.keep (fun b _ f=>e.block b f) e.size
def qL.go{B:Nat}{D:Nat->Prop}{W W':World}{c:Nat}{p:iJ}{l l0:List jd}{y:jd}{css:List (List Value)}{q:iJ}{a cap:Nat}(h:qL B D W c p l l0 y css q a cap)(d:Below W W W'):qL B D W' c p l l0 y css q a cap:=h.keep (fun b _ e=>d.block b e) d.size
def mf{B g:Nat}{a:Int}{c:Nat}{D:Nat->Prop}{d:Option jL}{W i W':World}{e:Ending}(h:iE B g a c D d i e W')(f:Below W W i)(p:g<=W.heap.size):iE B g a c D d W e W':=by
 obtain⟨h1,h2,h3⟩:=h;have s:=f.size;refine⟨(f.mono p).trans h1,fun k r o=>(h2 k (by omega) o).trans (f.block k r),h3.imp ?_ id⟩;rintro⟨q,l,m,D',n,h5⟩;exact⟨q,l,m,D',fun b j=>(n b j).imp id (fun h=>by omega),h5⟩
def II{B g c f:Nat}{D:Nat->Prop}{d:Option jL}{a W:World}(o:d=none)(n:∀b,b<a.heap.size->b≠f->W.heap[b]? =a.heap[b]?)(h:Below B a W)(i:D f)(m:g<=B):iE B g 7 c D d a iX W:=
 ⟨h.mono m,fun k j l=>n k j (fun e=>l (by rw[e];exact i)),VS ⟨o,rfl⟩⟩
def Oe{W:World}{b:Nat}(d e f:Nat)(a:W.heap[b]? =some (.cells #[.int .i64 (d:Int),.int .i64 (e:Int),.int .i64 (f:Int)] 3 (0,0))):SL W W (J b) 3 3 ([d,e,f].map fun(x:Nat)=>(x:Int)):=by
 refine⟨rfl,aa _,fun _=>⟨b,0,rfl,TK a,fun j c=>?_⟩⟩
 match j,c with
 |0,_=>exact VV a 0
 |1,_=>exact VV a 1
 |2,_=>exact VV a 2
 |j+3,c=>omega
def Tryz.zeroPar(w:World):(zeroValue 97).run prog w=.ok (.agg #[.string {data:=#[]},oZ,.nilFunc]) w:=by kernel_rfl
def my.upd{B:Nat}{D:Nat->Prop}{a W W':World}{c:Nat}{p:iJ}{m:Value}{l:List gM}{seen:List (List UInt8)}{l0:List gM}{y:gM}{css:List (List Value)}{q:iJ}{i cap d:Nat}{j:List UInt8}(h:my B D a c p m l seen l0 y css q i cap d)(f:Below a a W)
 (s:oC W' d ((seen.map bs)++[bs j]))(o:W.grownBy W' (some d))(n:B<=a.heap.size):
 my B D W' c p m l (seen++[j]) l0 y css q i cap d/\(∀b,b<a.heap.size->b≠d->W'.heap[b]? =a.heap[b]?)/\Below B a W':=by
 have r:∀b,b<a.heap.size->b≠d->W'.heap[b]? =a.heap[b]? :=fun b h1 h2=>(o.block b (ab h1 f.size) (fun e=>h2 (by cases e;rfl))).trans (f.block b h1)
 have g:Below B a W':=(f.mono n).grown o (af n f.size) (fun k e=>by cases e;exact h.bmB);exact⟨h.mapSet r g.size (by rw[aT];exact s),r,g⟩
def mp{ops:Array Oper}{a:List Oper}{g:Oper}{c:Act}{w:World}{Q:Exit->Act->World->Prop}{b:Nat}{u x z0 f:Value}{s:ByteArray}{d:Int}(e:w.heap[b]? =some (.cells #[u,x,z0] 97 (0,0)))(hf:f.oneCell'=true)(k:g.guard=none)(p q:Operand)(o:g.op=.store 97 p q)
 (r:c.eval p=.pointer (J b))(t:c.eval q=.agg #[s,d,f])
 (n:∀w',w'.heap[b]? =some (.cells #[s,d,f] 97 (0,0))->(∀B w0,B<=b->Below B w0 w->Below B w0 w')->wpList prog ops Q a (c.put g.dst undef) w'):wpList prog ops Q (g::a) c w:=by
 refine wpList_store_mid k 97 p q o b 0 #[s,d,f] r t (fun j i=>?_) Tryz.infoPar (all_oneCell_toArray (cs:=[.string s,.int .i64 d,f]) (by intro v l;simp only[aS,bi,cR]at l;obtain rfl|rfl|rfl:=l;rfl;rfl;exact hf)) ?_
 .match j,i with
  |0,_=>simp[World.cell?,World.frozen?,e]
  |1,_=>simp[World.cell?,World.frozen?,e]
  |2,_=>simp[World.cell?,World.frozen?,e]
  |j+3,i=>simp at i;omega
 .refine n _ ?_ (fun B w0 m h=>?_)
  .have:=tH e 0 [s,d,f] (by simp)
   simpa using this
  .exact ig m _ _ h
def L4(a:List UInt8):∃(nm:List UInt8)(d:Nat)(F:Value),(yE a).getD (.agg #[.string {data:=#[]},oZ,.nilFunc])=.agg #[.string (bs nm),.int .i64 (d:Int),F]/\((yE a).isSome=true->kO.findIdx? (· ==a)=none/\ ∃b off,F=.func (.func b) #[] #[]/\DN b off d a)/\((yE a).isSome=false->a≠lB/\a≠kj)/\F.oneCell'=true:=by
 by_cases h1:a=lB
 .subst h1
  exact⟨lB,6,_,rfl,fun _=>⟨by decide,_,15,rfl,Ax⟩,(fun h=>by cases h),rfl⟩
 .by_cases h2:a=kj
  .subst h2
   exact⟨kj,0,_,rfl,fun _=>⟨by decide,_,11,rfl,yq⟩,(fun h=>by cases h),rfl⟩
  .have:yE a=none:=by unfold yE;rw[aj h1,aj h2]
   rw[this];exact⟨[],0,.nilFunc,rfl,(fun h=>by cases h),(fun _=>⟨h1,h2⟩),rfl⟩
def L6{B g cc A n c N:Nat}{D:Nat->Prop}{r:jL}{W:World}{d:List UInt8}{ws:List (List UInt8)}(h:vM B g 7 cc D r W)(hat:r.at_=7)(hw:ua W (J A) n c (d::ws) W)(hl:∀s∈d::ws,s.length<=100000)(hn:ws.length<=100000)
 (hc:cc<=100001)(hB:B<=W.heap.size)(hg:GW W)(hT:TW N W)(g7:N<=B):
 Calls prog 65 #[U g,Z (J A) n c] W (iE B g 7 cc D (lX r d ws) W):=by
 have c3:Below W W W.drew:=⟨rfl,rfl,rfl,aa _,fun _ _=>rfl⟩;have f5:=sV hw c3;obtain⟨f,v,s,k,m,hA,hL⟩:=h.go c3;have o6:=hL.gB
 obtain ⟨h7,_⟩|⟨_,l0,y,css,q,bb,cap,bm,hS⟩|⟨h7,_⟩:=hL.l.2
 .omega
 .have e1:=hS.ep
  have e2:=hS.em;subst e1;subst e2;have c7:W.drew.cell? ⟨g,7,none⟩=some (.slice (J bb) (l0.length+1) cap):=(hA.cell 7).1;have f1:g<W.drew.heap.size:=TK hA
  have n5:l0.length+1<=cap:=by
   obtain ⟨e,_⟩|⟨g',m9,n9,e,_,_,h3,_⟩:=hS.row.2
   .cases e
   .cases e;exact h3
  have o7:l0.length<=100001:=by have:=hL.l.1;have:l0.length+1<=cc:=this;omega
  have m5:n=ws.length+1:=by have:=hw.1;simp at this;omega
  subst m5;have o4:ws.length+1<=c:=hw.2.1
  have a3:W.drew.cell? (J A)=some (.string (bs d)):=by
   obtain⟨g',off,e,_,h3⟩:=f5.2.2 (by omega);cases e;exact h3 0 d rfl
  have d6:A<W.drew.heap.size:=by
   obtain⟨g',off,e,h3,_⟩:=f5.2.2 (by omega);cases e;exact h3
  have HA:=O hA;have HL:=O hL;have H:=O hS;have Hw:=O f5;have Hl:=O hl;have Hg:=O (hg.below c3);have HT:=O (hT.below (c3.mono (af g7 hB)));have Hd:=O c3;have Hn:=O hn;have e3:=O hat;have l6:B<=W.drew.heap.size:=hB;clear hA hL hS f5 hl hg hT c3 hw h hn hat;go_enter func65,ntmps65;go_upto_region 0 with fail;refine gS 13 [(0,true),(1,true),(2,true),(3,true),(4,true),(5,true),(6,true),(7,true),(8,true),(9,true),(10,true),(11,true),(12,true)] (by kernel_rfl) (by kernel_rfl) ?_;have f9:IntKind.i64.wrap (l0.length:Int)=(l0.length:Int):=TM _ (by omega)
  iterate 11
   refine gU (v:=?_) ?_ ?_;rotate_left
   .intro y j
    have k1:=(j.cell (p:=⟨g,7,none⟩) f1).trans c7;go_simp;with_reducible rfl
   try simp only[V]
  iterate 2
   refine gU (v:=?_) ?_ ?_;rotate_left
   .intro y j
    go_simp
    try rw[f9]
    try rw[aq (show(l0.length:Int) <(l0.length:Int)+1 by omega)]
    try with_reducible rfl
   try simp only[V]
  refine iu rfl ?_;by_cases hf:d=lG
  .subst hf
   have hq:(bs lG==({data:=#[102,105,108,109]}:ByteArray))=true:=by decide
   have b6:Below W.drew W.drew (W.alloc (.cells #[.int .i64 ((7:Nat):Int),.int .i64 ((0:Nat):Int),.int .i64 ((0:Nat):Int)] 3)).drew:=(TH W.drew W.drew).alloc (aa _) (.cells #[.int .i64 ((7:Nat):Int),.int .i64 ((0:Nat):Int),.int .i64 ((0:Nat):Int)] 3);have i7:(W.alloc (.cells #[.int .i64 ((7:Nat):Int),.int .i64 ((0:Nat):Int),.int .i64 ((0:Nat):Int)] 3)).drew.heap[W.heap.size]? =some (.cells #[.int .i64 ((7:Nat):Int),.int .i64 ((0:Nat):Int),.int .i64 ((0:Nat):Int)] 3 (0,0)):=TL W _;by_cases m0:c=1
   .subst m0
    obtain rfl:ws=[]:=aX.1 (by omega);go_wp2_with fail;refine(sS [] [7,0,0] _ _ 0 3 _ 3 _ ⟨rfl,aa _,fun h0=>absurd h0 (by omega)⟩ (Oe 7 0 0 i7) (by omega) (by omega) (fun s hs=>by cases hs) (by decide) (Hg.below b6)).mono ?_;rintro e w2 M;have Q:kF [] [7,0,0]=none:=rfl;unfold mu at M;rw[Q]at M;obtain⟨rfl,X⟩:=M;have hb:iE B g 7 cc D (lX r lG []) W iX w2:=iE.bad (by rw[sW H.el,Q];rfl) (Hd.trans (I b6 X)) (by omega);have P:=hb;clear hb Q X b6 c7 a3 hq;unfold iX at P⊢;have b4:=O P;clear P;go_wp2_with fail;exact⟨rfl,b4⟩
   .go_wp2_with fail
    refine(sS ws [7,0,0] _ _ ws.length 3 _ 3 _ (sV (Ay Hw) b6) (Oe 7 0 0 i7) (by have:=Hn.out;omega) (by omega) (fun s hs=>Hl s (au _ hs)) (by decide) (Hg.below b6)).mono ?_;rintro e w2 M;have b3:=O b6;clear b6 hq
    cases Q:kF ws [7,0,0]with
    |none=>
     unfold mu at M;rw[Q]at M;obtain⟨rfl,X⟩:=M;have hb:iE B g 7 cc D (lX r lG ws) W iX w2:=iE.bad (by rw[sW H.el,Q];rfl) (Hd.trans (I b3 X)) (by omega);have P:=hb;clear hb Q X b3 c7 a3;unfold iX at P⊢;have b4:=O P;clear P;go_wp2_with fail;exact⟨rfl,b4⟩
    |some zs=>
     have hz:=qj _ _ _ Q;unfold mu at M;rw[Q]at M;obtain⟨⟨a2,c2,rfl,hs,m2⟩,X⟩:=M
     obtain⟨z0,z1,z2,rfl⟩:∃z0 z1 z2,zs=[z0,z1,z2]:=by
      have:zs.length=3:=by rw[hz.1,hz.2];rfl
      match zs,this with
      |[x,y,z],_=>exact⟨x,y,z,rfl⟩
     obtain⟨b,off,rfl,j1,e7⟩:=hs.at (by show 0<3;omega)
     have o2:W.heap.size<b:=by have:=m2 b rfl;simp at this;omega
     have n0:w2.cell? ⟨b,off,none⟩=some (.int .i64 z0):=e7 0 (by show 0<3;omega);have n1:w2.cell? ⟨b,off+1,none⟩=some (.int .i64 z1):=e7 1 (by show 1<3;omega);have n2:w2.cell? ⟨b,off+2,none⟩=some (.int .i64 z2):=e7 2 (by show 2<3;omega);have o3:3<=c2:=hs.2.1;have hA:=HA.go (I b3 X);have hL:=HL.go (I b3 X);have hS:=H.go (I b3 X)
     have hr:lX r lG ws=some ⟨{r.x with l:=l0++[⟨y.s,y.zs++[z0,z1,z2]⟩]},7,r.seen⟩:=by rw[sW hS.el,Q];rfl
     have n6:=TK hA;have l9:=hS.bbB;obtain⟨cg,fg⟩:=hS.cell (show 21<22 by omega)
     change w2.cell? ⟨bb,l0.length*22+21,none⟩=some (.slice q.a q.n q.c)at cg
     have m7:=hS.qn;have l1:=O (show∀b,q.v.ownBlock=some b->b<W.drew.heap.size from fun b e=>(gT H.t9.row e).2);have Hr:=O hr;have Hb:=O (Hd.trans (I b3 X));have j7:=O hA;have j9:=O hL;have k0:=O hS;have n4:=H.bbB.2
     have o1:B<=w2.heap.size:=by have:=(I b3 X).size;omega
     clear hr hA hL hS X Q hz e7 hs b3 Hw HA HL H c7 a3;obtain⟨qa,qn,qc⟩:=q
     change w2.cell? ⟨bb,l0.length*22+21,none⟩=some (.slice qa qn qc)at cg
     change qn<=cc at m7
     go_upto_region 3 with fail;refine kC (S:=fun x=>x=bb\/x=b) 17 [(0,true),(1,true),(2,true),(3,true),(4,true),(5,true),(6,true),(7,true),(8,true),(9,true),(10,true),(11,true),(12,true),(13,true),(14,true),(15,false),(16,false)] (by kernel_rfl) (by kernel_rfl) ?_
     iterate 15
      refine gU (v:=?_) ?_ ?_;rotate_left
      .intro y j
       have k1:=(j.cell (p:=⟨bb,l0.length*22+21,none⟩) (VR rfl)).trans cg;have k2:=(j.cell (p:=⟨b,off,none⟩) (VS rfl)).trans n0;have k3:=(j.cell (p:=⟨b,off+1,none⟩) (VS rfl)).trans n1;have k4:=(j.cell (p:=⟨b,off+2,none⟩) (VS rfl)).trans n2;go_simp;with_reducible rfl
      try simp only[V]
     refine gP (fun K hK=>?_);go_simp;refine hK _ _ (fun x hx=>iC (by obtain rfl|rfl:=hx;exact l9.2;exact j1)) ?_;clear hK K;(try simp only[V]);have T:Below w2 w2 (w2.drew.alloc (.cells [Value.int .i64 z0,.int .i64 z1,.int .i64 z2].toArray 70)):=gY ((TH _ _).drew);have g5:=j7.go T;have i9:=j9.go T;have c1:=k0.go T;have i0:=ab j1 T.size
     have l5:B<=(w2.drew.alloc (.cells [Value.int .i64 z0,.int .i64 z1,.int .i64 z2].toArray 70)).heap.size:=by have:=T.size;omega
     have n7:=TK g5;have e6:=c1.bbB;refine gP (fun K hK=>?_);refine nR underlying62 Tryz.infoFilm3 rfl (by omega) (by omega) _ _ rfl B _ (.slice qa qn qc) qn w2 _ [.int .i64 z0,.int .i64 z1,.int .i64 z2] rfl c1.t9.row (TL w2.drew _) rfl rfl (by simp[Value.oneCell']) (by omega) l5 ?_;intro g2 n3 t f3 f0 m3;have f2:(Value.slice qa qn qc).ownBlock≠some bb:=c1.ne.1
     have i1:(Value.slice qa qn qc).ownBlock≠some b:=fun e=>by have h9:b<W.heap.size:=l1 b e;omega
     refine hK _ _ (fun x hx=>f0.kept x (by obtain rfl|rfl:=hx;exact e6.2;exact i0) (by obtain rfl|rfl:=hx;exact f2;exact i1)) ?_;clear hK K
     have f8:t.cell? ⟨bb,l0.length*22+21,none⟩=some (.slice qa qn qc)/\t.frozen? ⟨bb,l0.length*22+21,none⟩=false:=by
      have hk:=f0.kept bb e6.2 f2;obtain⟨q1,q2⟩:=c1.cell (show 21<22 by omega);exact⟨by simp only[World.cell?,hk];exact q1,by simp only[World.frozen?,hk];exact q2⟩
     obtain⟨i5,l2⟩:=f8;have HA:=O g5;have HL:=O i9;have H:=O c1;have Hb:=O (I Hb T);have h4:=O f3;have k6:=O f0;clear g5 i9 c1 T f3 f0 cg fg n0 n1 n2;(try simp only[V]);refine iu rfl ?_;go_wp2;go_end0;exact ID Hr e3 Hb HA HL H h4 k6 m3 hB hc
  .have o5:(d==[102,105,108,109])=false:=by rw[ak];exact hf
   obtain⟨c0,o0⟩:=HA.cell 10
   change W.drew.cell? ⟨g,10,none⟩=some (.map (some bm))at c0
   have h6:bm<W.drew.heap.size:=H.map.lt;have Hf:=O hf;clear hf;go_upto_region 4 with fail;by_cases h1:ws.length=1
   .obtain⟨F,rfl⟩:∃F,ws=[F]:=by
     match ws,h1 with
     |[x],_=>exact⟨x,rfl⟩
    have e4:=O (JQ d r.seen)
    have g4:W.drew.cell? ⟨A,1,none⟩=some (.string (bs F)):=by
     obtain⟨g',off,e,_,h3⟩:=Hw.2.2 (by simp);cases e;exact h3 1 F rfl
    have c9:=O H.map;refine gS 14 [(0,true),(1,true),(2,true),(3,true),(4,true),(5,true),(6,true),(7,true),(8,true),(9,true),(10,true),(11,true),(12,true),(13,true)] (by kernel_rfl) (by kernel_rfl) ?_
    iterate 14
     refine gU (v:=?_) ?_ ?_;rotate_left
     .intro y j
      have k1:=(j.cell (p:=⟨g,10,none⟩) f1).trans c0;have k2:=(j.cell (p:=J A) d6).trans a3;have k3:=tO underlying105 underlying9 (Tryz.zeroBool y) (c9.block (j.block bm h6)) (bs d);go_simp;with_reducible rfl
     try simp only[V]
    refine iu rfl ?_;by_cases c6:d∈r.seen
    .have j4:rx (bs d) (r.seen.map bs)=true:=by rw[e4];exact aP c6
     have hb:iE B g 7 cc D (lX r d [F]) W iX W.drew.drew:=iE.bad (IH Hf c6) Hd.drew (by omega);have P:=hb;clear hb c6 c0 a3 g4 c7;unfold iX at P;have b4:=O P;clear P;go_wp2_with fail;refine(lm _).mono ?_;rintro e t ⟨rfl,rfl⟩;unfold iX;go_wp2_with fail;exact⟨rfl,b4⟩
    .have j4:rx (bs d) (r.seen.map bs)=false:=by rw[e4];exact aw c6
     have b9:=O c6;clear c6;go_wp2_with fail;refine(kW _).mono ?_;rintro e t ⟨rfl,rfl⟩;go_upto_region 5 with fail;refine gS 7 [(0,true),(1,true),(2,true),(3,true),(4,true),(5,true),(6,true)] (by kernel_rfl) (by kernel_rfl) ?_
     iterate 7
      refine gU (v:=?_) ?_ ?_;rotate_left
      .intro y j
       have k1:=(j.cell (p:=⟨g,10,none⟩) f1).trans c0;have k2:=(j.cell (p:=J A) d6).trans a3;go_simp;with_reducible rfl
      try simp only[V]
     refine iu rfl ?_
     have i8:A≠bm:=fun e=>by
      obtain⟨es,j6,hm,_⟩:=c9;rw[e,World.cell?,hm]at a3;cases a3
     have m4:g≠bm:=fun e=>by have:=H.bmB;omega
     refine qV underlying105 underlying9 rfl (.tmp 67) (.tmp 70) (.const (.bool true)) rfl (b:=bm) (ks:=r.seen.map bs) c9 (bs d) j4 rfl rfl rfl ?_;intro t j3 j0;obtain⟨d9:HQ _,Hk3:HQ _,Hbe3:HQ _⟩:=H.upd (by exact⟨rfl,rfl,rfl,aa _,fun _ _=>rfl⟩) j3 j0 l6;clear j3 j0;have h5:jm t g r.x 7 f v ⟨some ⟨bb,0,none⟩,l0.length+1,cap⟩ k (.map (some bm)):=(Hk3 g f1 m4).trans HA;have f4:=Hbe3.size
     have e5:t.cell? (J A)=some (.string (bs d)):=by rw[<- a3];simp only[World.cell?,Hk3.out A d6 i8]
     have i6:t.cell? ⟨A,1,none⟩=some (.string (bs F)):=by rw[<- g4];simp only[World.cell?,Hk3.out A d6 i8]
     have R:A<t.heap.size:=ab d6 f4;have d4:=O (HT.below (Hbe3.mono g7));have i4:=O (Hg.of (Hbe3.mono g7) HT.glo);have g1:=O (show∀W',Below t t W'->lX r d [F]=none->iE B g 7 cc D (lX r d [F]) W iX W' from fun W' hb hr=>II hr (fun b h1 h2=>(hb.block b (ab h1 f4)).trans (Hk3 b h1 h2)) (Hd.mono hB|>.trans (Hbe3.trans (hb.mono (by omega)))) H.dbm (by omega));clear h5 c7 c0 a3 g4;by_cases hgl:d=lP
     .subst hgl
      have hr:lX r lP [F]=some ⟨{r.x with l:=l0++[⟨{y.s with e9:=bs F},y.zs⟩]},7,r.seen++[lP]⟩:=by rw[nS H.el Hf b9,aq rfl]
      obtain⟨i5,l2⟩:=d9.cell (show 13<22 by omega)
      change t.cell? ⟨bb,l0.length*22+13,none⟩=some (.string y.s.e9)at i5
      have Hr:=O hr;clear hr;go_wp2;go_end0;exact mf (xr Hr e3 HA HL H Hk3 Hbe3 d9.map (off:=13) (by omega) rfl (by show(bs F).size<=_;rw[Tb];have:=Hl F (by simp);omega) hc) Hd (by omega)
     .have e8:(d==[103,108,97,115,115])=false:=by rw[ak];exact hgl
      obtain⟨m8,d0,F0,hO,c8,c5,g6⟩:=L4 d;obtain⟨ob,ol,m6,n8,j5,c4⟩:=d4.oth
      have i2:ob<t.heap.size:=by omega
      have l7:3<t.heap.size:=ab (ab (show 3<14 by decide) HT.glo) (by omega)
      have j2:∀y,Below t t y->(Instr.lookup 150 (.map (some ob)) (.string (bs d)) true).run prog y=.ok (.tuple #[.agg #[.string (bs m8),.int .i64 (d0:Int),F0],.bool (yE d).isSome]) y:=fun y j=>by
       rw[mM underlying150 underlying9 (Tryz.zeroPar y) (j5.block (j.block ob i2)) d true,c4 d,hO];rfl
      have b8:=O hgl;have f7:=O c8;have f6:=O c5;have k7:=O j2;clear hgl hO c8 c5 j5 c4 j2 e8;generalize(yE d).isSome=ok0 at*
      have e8:(d==[103,108,97,115,115])=false:=by rw[ak];exact b8
      go_upto_region 8 with fail;refine ic 9 [7] [(8,6,.cells #[.string {data:=#[]},oZ,.nilFunc] 97)] [(0,true),(1,true),(2,true),(3,true),(4,true),(5,true),(6,true),(7,true)] (by kernel_rfl) (by kernel_rfl) ⟨by simp,by simp,by(simp only[ct];exact⟨⟨by omega,_,rfl,rfl,rfl,fun _ _=>rfl⟩,fun _ h=>by cases h⟩)⟩ (fun _ _ _ _ _ h=>h) (fun _ _ o _ _ h=>by cases o<;>exact h) ?_
      iterate 7
       refine gZ (v:=?_) ?_ ?_;rotate_left
       .intro y j
        have k1:=(j.cell (p:=J 3) l7).trans m6;have k2:=(j.cell (p:=J A) R).trans e5;have k3:=k7 y (gJ (k:=1) j);go_simp;with_reducible rfl
       try simp only[V]
      iterate 1
       refine iy (v:=?_) ?_ ?_;rotate_left
       .intro y
        go_simp;with_reducible rfl
       try simp only[V]
      refine nV (l:=[_,_]) rfl (fun b1 w4 hC l8 g8=>?_);have d1:Below t t w4:=gJ (k:=1) l8
      cases hfi:kO.findIdx? (· ==d)with
      |none=>
       have m1:tk d= -1:=by unfold tk;rw[hfi];rfl
       cases ok0 with
       |false=>
        obtain⟨k8:HQ _,Hn2:HQ _⟩:=f6 rfl;have k9:=O (show lX r d [F]=none by rw[nS H.el Hf b9,aj b8.out,Xq hfi k8 Hn2]);have i3:=O hfi;clear hfi
        go_wp2_with(first
         |(refine mp g8 g6 rfl (.tmp 6) (.tmp 87) rfl rfl rfl ?_;intro w5 (b2:HQ _) hbe5;have C:=hbe5 t t hC d1;have e0:=(C.cell (p:=J A) R).trans e5;have w:=O C;clear hbe5 C)
         |(refine(uc d N _ (d4.below (w.mono (by omega))) (by have:=w.size;omega)).mono ?_;rintro e w6 ⟨rfl,a5⟩;have a6:=O (I w a5);have d8:=O ((a5.block b1 (TK b2)).trans b2);clear a5))
        refine(lm _).mono ?_;rintro e w8 ⟨rfl,rfl⟩;have b0:=g1 _ a6 k9;unfold iX at b0⊢;have k5:=O b0;clear b0;go_wp2_with fail;exact⟨rfl,k5⟩
       |true=>
        obtain⟨_,l4,off,rfl,a1:HQ _⟩:=f7 rfl;have i3:=O hfi;clear hfi
        go_wp2_with(first
         |(refine mp g8 g6 rfl (.tmp 6) (.tmp 87) rfl rfl rfl ?_;intro w5 (b2:HQ _) hbe5;have C:=hbe5 t t hC d1;have e0:=(C.cell (p:=J A) R).trans e5;have w:=O C;clear hbe5 C)
         |(refine(uc d N _ (d4.below (w.mono (by omega))) (by have:=w.size;omega)).mono ?_;rintro e w6 ⟨rfl,a5⟩;have a6:=O (I w a5);have d8:=O ((a5.block b1 (TK b2)).trans b2);clear a5))
        refine(kW _).mono ?_;rintro e w8 ⟨rfl,rfl⟩;have E:=a1.out;have a9:=d8.out;have a0:=a6;go_upto_region 13 with fail;have e1:w6.cell? ⟨b1,1,none⟩=some (.int .i64 (d0:Int)):=VV a9 1;have e2:w6.cell? ⟨b1,2,none⟩=some (.func (.func l4) #[] #[]):=VV a9 2;have a8:=TK a9;have d5:w6.cell? ⟨A,1,none⟩=some (.string (bs F)):=(a0.cell (p:=⟨A,1,none⟩) R).trans i6;have d3:A<w6.heap.size:=ab R a0.size;refine gS 11 [(0,true),(1,true),(2,true),(4,true),(5,true),(6,true),(7,true),(8,true),(3,false),(9,false),(10,true)] (by kernel_rfl) (by kernel_rfl) ?_
        iterate 8
         refine gU (v:=?_) ?_ ?_;rotate_left
         .intro y j
          have k1:=(j.cell (p:=⟨b1,1,none⟩) a8).trans e1;have k2:=(j.cell (p:=⟨b1,2,none⟩) a8).trans e2;have k3:=(j.cell (p:=⟨A,1,none⟩) d3).trans d5;go_simp;with_reducible rfl
         try simp only[V]
        refine gP (fun KK a4=>?_);have d2:=E.ent;go_simp;clear d2;refine(E.call bb (l0.length*22) _).mono ?_;rintro e w7 ⟨rfl,rfl⟩;refine a4 _ _ (TH _ _) ?_;clear a4 KK;(try simp only[V]);refine gP (fun KK a4=>?_);go_simp;refine(mL F d0 _ (Hl F (by simp)) E.d18 (i4.below a0.drew)).mono ?_;rintro e w7 ⟨M,b7⟩;have L:Below t t w7:=a0.drew.trans (b7.mono a0.size)
        cases Q:VZ F d0 with
        |none=>
         unfold kX at M;rw[Q]at M;subst M;have b0:=g1 w7 L (by rw[nS H.el Hf b9,aj b8.out,E.dig];show(VZ F d0).map _=none;rw[Q];rfl);unfold iX at b0⊢;exact⟨rfl,b0⟩
        |some z=>
         unfold kX at M;rw[Q]at M;subst M;refine a4 _ _ b7 ?_;clear a4 KK;try simp only[V]
         have hr:lX r d [F]=some ⟨{r.x with l:=l0++[⟨Ac y.s d z,y.zs⟩]},7,r.seen++[d]⟩:=by
          rw[nS H.el Hf b9,aj b8.out,E.dig]
          show(VZ F d0).map _=_
          rw[Q];rfl
         have b5:=d9.go L;obtain⟨g3,l3⟩:=b5.cell E.lt;obtain⟨u7,d7⟩:∃u,(gX y.s q.a q.n q.c)[off]? =some u:=⟨_,ae (by show off<22;exact E.lt)⟩;rw[d7]at g3;have Hr:=O hr;have g0:=O b5;have a7:=O L;have a1:=O E;clear hr b5 L E d7 Q b7 e1 e2 a9 d5
         iterate 1
          refine gU (v:=?_) ?_ ?_;rotate_left
          .intro y j
           skip;go_simp;with_reducible rfl
          try simp only[V]
         refine iu rfl ?_;go_wp2;go_end0;exact mf (xr Hr e3 HA HL H (fun b h1 h2=>(a7.block b (ab h1 f4)).trans (Hk3 b h1 h2)) (Hbe3.trans (a7.mono (by omega))) g0.map a1.lt (a1.set _ _ _ _ _) (by rw[a1.e9];exact H.e9) hc) Hd (by omega)
      |some i=>
       have m1:tk d=(i:Int):=by unfold tk;rw[hfi];rfl
       have h8:i<17:=qN hfi;have a1:=O (L0 hfi);have i3:=O hfi;clear hfi
       go_wp2_with(first
        |(refine mp g8 g6 rfl (.tmp 6) (.tmp 87) rfl rfl rfl ?_;intro w5 (b2:HQ _) hbe5;have C:=hbe5 t t hC d1;have e0:=(C.cell (p:=J A) R).trans e5;have w:=O C;clear hbe5 C)
        |(refine(uc d N _ (d4.below (w.mono (by omega))) (by have:=w.size;omega)).mono ?_;rintro e w6 ⟨rfl,a5⟩;have a6:=O (I w a5);have d8:=O ((a5.block b1 (TK b2)).trans b2);clear a5)
        |(refine qe (.tmp 96) rfl rfl rfl ((d4.below (a6.mono (by omega))).par i h8) ?_)
        |(refine mp d8 rfl rfl (.tmp 6) (.tmp 97) rfl rfl rfl ?_;intro w8 (j8:HQ _) hbe8;have g9:=O (hbe8 t t hC a6);clear hbe8))
       refine(kW _).mono ?_;rintro e w9 ⟨rfl,rfl⟩;have E:=a1.out;have a9:=j8.out;have a0:=g9;go_upto_region 13 with fail;have e1:w8.cell? ⟨b1,1,none⟩=some (.int .i64 ((oo (i+1)):Int)):=VV a9 1;have e2:w8.cell? ⟨b1,2,none⟩=some (.func (.func (QB i)) #[] #[]):=VV a9 2;have a8:=TK a9;have d5:w8.cell? ⟨A,1,none⟩=some (.string (bs F)):=(a0.cell (p:=⟨A,1,none⟩) R).trans i6;have d3:A<w8.heap.size:=ab R a0.size;refine gS 11 [(0,true),(1,true),(2,true),(4,true),(5,true),(6,true),(7,true),(8,true),(3,false),(9,false),(10,true)] (by kernel_rfl) (by kernel_rfl) ?_
       iterate 8
        refine gU (v:=?_) ?_ ?_;rotate_left
        .intro y j
         have k1:=(j.cell (p:=⟨b1,1,none⟩) a8).trans e1;have k2:=(j.cell (p:=⟨b1,2,none⟩) a8).trans e2;have k3:=(j.cell (p:=⟨A,1,none⟩) d3).trans d5;go_simp;with_reducible rfl
        try simp only[V]
       refine gP (fun KK a4=>?_);have d2:=E.ent;go_simp;clear d2;refine(E.call bb (l0.length*22) _).mono ?_;rintro e w7 ⟨rfl,rfl⟩;refine a4 _ _ (TH _ _) ?_;clear a4 KK;(try simp only[V]);refine gP (fun KK a4=>?_);go_simp;refine(mL F (oo (i+1)) _ (Hl F (by simp)) E.d18 (i4.below a0.drew)).mono ?_;rintro e w7 ⟨M,b7⟩;have L:Below t t w7:=a0.drew.trans (b7.mono a0.size)
       cases Q:VZ F (oo (i+1))with
       |none=>
        unfold kX at M;rw[Q]at M;subst M;have b0:=g1 w7 L (by rw[nS H.el Hf b9,aj b8.out,E.dig];show(VZ F (oo (i+1))).map _=none;rw[Q];rfl);unfold iX at b0⊢;exact⟨rfl,b0⟩
       |some z=>
        unfold kX at M;rw[Q]at M;subst M;refine a4 _ _ b7 ?_;clear a4 KK;try simp only[V]
        have hr:lX r d [F]=some ⟨{r.x with l:=l0++[⟨Ac y.s d z,y.zs⟩]},7,r.seen++[d]⟩:=by
         rw[nS H.el Hf b9,aj b8.out,E.dig]
         show(VZ F (oo (i+1))).map _=_
         rw[Q];rfl
        have b5:=d9.go L;obtain⟨g3,l3⟩:=b5.cell E.lt;obtain⟨u7,d7⟩:∃u,(gX y.s q.a q.n q.c)[Iv i]? =some u:=⟨_,ae (by show Iv i<22;exact E.lt)⟩;rw[d7]at g3;have Hr:=O hr;have g0:=O b5;have a7:=O L;have a1:=O E;clear hr b5 L E d7 Q b7 e1 e2 a9 d5
        iterate 1
         refine gU (v:=?_) ?_ ?_;rotate_left
         .intro y j
          skip;go_simp;with_reducible rfl
         try simp only[V]
        refine iu rfl ?_;go_wp2;go_end0;exact mf (xr Hr e3 HA HL H (fun b h1 h2=>(a7.block b (ab h1 f4)).trans (Hk3 b h1 h2)) (Hbe3.trans (a7.mono (by omega))) g0.map a1.lt (a1.set _ _ _ _ _) (by rw[a1.e9];exact H.e9) hc) Hd (by omega)
   .have h0:((ws.length:Int)+1==2)=false:=by rw[ak];omega
    have hb:iE B g 7 cc D (lX r d ws) W iX W.drew.drew:=iE.bad (LR Hf h1) Hd.drew (by omega);have P:=hb;clear hb h1 c0 a3 c7;unfold iX at P;have b4:=O P;clear P;refine gS 14 [(0,true),(1,true),(2,true),(3,true),(4,true),(5,true),(6,true),(7,true),(8,true),(9,true),(10,true),(11,true),(12,true),(13,true)] (by kernel_rfl) (by kernel_rfl) ?_
    iterate 4
     refine gU (v:=?_) ?_ ?_;rotate_left
     .intro y j
      skip;go_simp;with_reducible rfl
     try simp only[V]
    iterate 9
     refine Gq rfl (fun _ _ _ h=>h) (by rfl) ?_;try simp only[V]
    iterate 1
     refine gU (v:=?_) ?_ ?_;rotate_left
     .intro y j
      skip;go_simp;with_reducible rfl
     try simp only[V]
    refine iu rfl ?_;go_wp2_with fail;refine(lm _).mono ?_;rintro e t ⟨rfl,rfl⟩;unfold iX;go_wp2_with fail;exact⟨rfl,b4⟩
 .omega
