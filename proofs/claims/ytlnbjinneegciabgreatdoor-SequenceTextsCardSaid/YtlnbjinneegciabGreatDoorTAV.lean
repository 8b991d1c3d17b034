import Derived.Test.YtlnbjinneegciabGreatDoorTAQ
namespace Go.Proofs.YtlnbjinneegciabGreatDoor
set_option linter.all false
set_option maxRecDepth 100000
set_option maxHeartbeats 3200000
open Go.Proofs.Tryz Go.RowKit Go.Lib
def SH{W':World}{g:Nat}{x:gR}{a:Int}{f v s k:iJ}{m:Value}{g2 n cap:Nat}(d:jm W' g x a f v s k m){c:World}(e:c=((W'.setCell ⟨g,7,none⟩ (.slice (J g2) n cap)).alloc (.map #[] 0)).setCell ⟨g,10,none⟩ (.map (some W'))):
 jm c g x a f v ⟨some ⟨g2,0,none⟩,n,cap⟩ k (.map (some W'))/\oC c W' []/\(∀b,b≠g->b<W'.heap.size->c.heap[b]? =W'.heap[b]?)/\Below g W' c:=by
 subst e;have hlt:=TK d;have h1:jm (W'.setCell ⟨g,7,none⟩ (.slice (J g2) n cap)) g x a f v ⟨some ⟨g2,0,none⟩,n,cap⟩ k m:=nJ d rfl
 have h:(W'.setCell ⟨g,7,none⟩ (.slice (J g2) n cap)).heap.size=W'.heap.size:=by simp
 have h2:jm ((W'.setCell ⟨g,7,none⟩ (.slice (J g2) n cap)).alloc (.map #[] 0)) g x a f v ⟨some ⟨g2,0,none⟩,n,cap⟩ k m:=(iC (by omega)).trans h1;refine⟨nJ h2 rfl,⟨#[],0,(iS (by omega)).trans (ku h),rfl⟩,fun b h3 i=>(iS h3).trans ((iC (by omega)).trans (iS h3)),?_⟩;exact kZ ((kZ (TH g W') (ag _)).alloc (by omega) _) (ag _)
def wF(z:Int):gW:=⟨z,0,0,0,0,0,0,0,0,0,0,0,0,⟨#[]⟩,0,0,0,0,0,0,0⟩
def N2{W':World}{g:Nat}{x:gR}{a:Int}{f v s k:iJ}{m:Value}(g2 n cap:Nat)(b:jm W' g x a f v s k m):((W'.setCell ⟨g,7,none⟩ (.slice (J g2) n cap)).alloc (.map #[] 0)).cell? ⟨g,10,none⟩=some m/\((W'.setCell ⟨g,7,none⟩ (.slice (J g2) n cap)).alloc (.map #[] 0)).frozen? ⟨g,10,none⟩=false:=by
 have hlt:=TK b;have h1:jm (W'.setCell ⟨g,7,none⟩ (.slice (J g2) n cap)) g x a f v ⟨some ⟨g2,0,none⟩,n,cap⟩ k m:=nJ b rfl;have h2:jm ((W'.setCell ⟨g,7,none⟩ (.slice (J g2) n cap)).alloc (.map #[] 0)) g x a f v ⟨some ⟨g2,0,none⟩,n,cap⟩ k m:=(iC (by simp;omega)).trans h1;exact jm.cell h2 10
def xq.go{α:Type}{R:pB α}{k:Nat}(ok:kR k R){T:TypeId}{B:Nat}{D:Nat->Prop}{W W':World}{p:iJ}{l:List α}{css:List (List Value)}(h:xq R k T B D W p l css)(hb:Below W W W'):xq R k T B D W' p l css:=
 ⟨kD h.row hb,h.len,h.n,h.k,fun i x cs h1 h2=>ok.kept (h.rep i x cs h1 h2) (fun b a=>hb.block b a.2.1) (fun b a=>⟨a.1,eb a.2.1 hb.size,a.2.2⟩),h.inD⟩
def Aw(x:gR)(v:List UInt8):jk x 7 [v]=(kP.findIdx? (· ==v)).map fun i=>{x with l:=x.l++[lJ (i+1)]}:=rfl
def qN{l:List (List UInt8)}{s:List UInt8}{i:Nat}(h:l.findIdx? (· ==s)=some i):i<l.length:=by
 rw[fm]at h;exact h.1
def DM{B g:Nat}{w:Int}{cc:Nat}{D:Nat->Prop}{r:jL}{W:World}{ws:List (List UInt8)}{a:Option Addr}{n c N:Nat}(h:vM B g w cc D r W)(hw:ua W a n c ws W)(hat:r.at_<=7)(hc:cc<=100001)(hB:B<=W.heap.size)(hT:TW N W)(hN:N<=W.heap.size):
 Calls prog 304 #[U g,Z a n c] W (iE B g w cc D ((jk r.x 7 ws).map fun y=>⟨y,((7:Nat):Int),[]⟩) W):=by
 have c1:g<B:=by obtain⟨f,v,s,k,m,M,F⟩:=h;exact F.gB
 obtain⟨ka,kn,kc,hk,S⟩:=hT.kin;have a6:1<W.heap.size:=eb (eb (show 1<14 by decide) hT.glo) hN;have A:Below W W W.drew:=⟨rfl,rfl,rfl,ag _,fun _ _=>rfl⟩;have c4:=@run_makeMap prog;have b3:kn=4:=S.1.symm;subst b3;have Hk:=O (show ua W.drew ka 4 kc kP N from S.kept (fun _ _=>rfl) (ag _));have H:=O (h.go A);have Hw:=O (sV hw A);have a5:=O hat;have L:=O A;have R:W.drew.cell? (J 1)=some (.slice ka 4 kc):=hk;have a1:1<W.drew.heap.size:=a6;clear h hw hat S hT A hk a6;go_enter func304,ntmps304;go_upto_region 0 with fail;refine gS 4 [(0,true),(1,true),(2,false),(3,false)] (by kernel_rfl) (by kernel_rfl) ?_
 iterate 2
  refine gU (v:=?_) ?_ ?_;rotate_left
  .intro y hy
   have k1:=(hy.cell (p:=J 1) a1).trans R;go_simp;with_reducible rfl
  try simp only[V]
 refine gP (fun KK u=>?_);go_simp;refine(nF ws a n c _ W.drew Hw).mono ?_;rintro e w1 ⟨he,rfl⟩
 obtain ⟨x,rfl,rfl⟩|⟨b4,rfl⟩:=lF he
 .refine u _ _ (TH _ _) ?_
  clear u KK he;(try simp only[V]);refine gP (fun KK u=>?_);go_simp;refine(Ar kP x ka 4 kc N W.drew Hk hN (by omega)).mono ?_;rintro e j ⟨rfl,d⟩;refine u _ _ d ?_;clear u KK;(try simp only[V]);refine iu rfl ?_
  cases hi:kP.findIdx? (· ==x)with
  |none=>
   have hb:iE B g w cc D ((jk r.x 7 [x]).map fun y=>(⟨y,((7:Nat):Int),[]⟩:jL)) W iX j:=iE.bad (la (by rw[Aw,hi];rfl)) (L.trans d) (by omega);have b:=hb;clear hb hi d R;unfold Lj;unfold iX at b;have K:=O b;clear b;go_wp2_with fail;refine(lm j).mono ?_;rintro e w3 ⟨rfl,rfl⟩;unfold iX;go_wp2_with fail;exact⟨rfl,K⟩
  |some i=>
   have c2:i<4:=qN hi;have hr:((jk r.x 7 [x]).map fun y=>(⟨y,((7:Nat):Int),[]⟩:jL))=some ⟨{r.x with l:=r.x.l++[lJ (i+1)]},7,[]⟩:=map_some (k:=7) (by rw[Aw,hi];rfl);obtain⟨f,v,s,k,m,M,F⟩:=H.go d;have b5:=F.l.1;obtain⟨css,hO⟩:=F.l.own a5 (by omega);obtain⟨cg,fg⟩:=M.cell 7;have c3:=TK M
   have c0:B<=j.heap.size:=by have:=d.size;exact af hB this
   have Hr:=O hr;have HA:=O M;have HL:=O F;have HO:=O hO;have T:=O (L.trans d);clear hr M F hO d hi Hk H Hw R;obtain⟨sa,sn,sc⟩:=s
   change j.cell? ⟨g,7,none⟩=some (.slice sa sn sc)at cg
   change sn<=cc at b5
   unfold Lj;go_wp2_with fail;refine(kW j).mono ?_;rintro e w3 ⟨rfl,rfl⟩;have q:Below j j (j.alloc (.cells (gX (wF ((i:Int)+1)) none 0 0).toArray 58)):=(TH _ _).alloc (ag _) _;have P:=HA.go q;have a3:=O P;have a8:=O (HL.go q);have a2:=TK P;have t:=kD HO.row q;have C:=HO.inD
   have b1:B<=(j.alloc (.cells (gX (wF ((i:Int)+1)) none 0 0).toArray 58)).heap.size:=by have:=q.size;omega
   have X:=O (TL j (.cells (gX (wF ((i:Int)+1)) none 0 0).toArray 58));have a4:=O q;have o:=O t;have b6:=O C;clear q t C P
   go_wp2_with(refine DL underlying34 Tryz.infoSurf3 rfl (by omega) (by omega) rfl _ _ rfl B _ (.slice sa sn sc) sn j _ (gX (wF ((i:Int)+1)) none 0 0) rfl o X rfl rfl (by simp[Value.oneCell',gX]) (by omega) b1 ?_;intro g2 cap w5 E Q b2;have z:=(Q.kept g a2 (fun e=>by have:=(gT o e).1;omega)).trans a3;obtain⟨b0,b9⟩:=jm.cell z 7;change w5.cell? ⟨g,7,none⟩=some (.slice sa sn sc)at b0;obtain⟨b7,b8⟩:=N2 g2 (sn+1) cap z;have a0:=O E;have a9:=O Q;have a7:=O z;clear E Q z cg fg)
   go_end0;obtain⟨q1,q2,q3,q4⟩:=SH (g2:=g2) (n:=sn+1) (cap:=cap) a7 rfl;exact Bp Hr (I T a4) a3 a8 (HO.go iD a4) a0 a9 b2 a5 hc hB q1 q2 (ag _) q3 q4
 .have T:=O (show iE B g w cc D ((jk r.x 7 ws).map fun y=>(⟨y,((7:Nat):Int),[]⟩:jL)) W iX W.drew from iE.bad (la (oX (by omega) b4)) L (by omega))
  have b:=T.out;unfold iX at b⊢;have K:=O b;clear b T;exact⟨rfl,K⟩
def IG(x:gR)(v:List UInt8):jk x 8 [v]=some {x with cf:=x.cf++[⟨bs v,[]⟩]}:=rfl
def Tryz.infoConfQ:(prog.info? 67).map (fun i=>(i.zero,i.size,i.bytes))=some (some (.agg #[.string {data:=#[]},oN]),2,40):=by kernel_rfl
def FO{B g:Nat}{E:Int}{cc:Nat}{D:Nat->Prop}{r:jL}{W:World}{ws:List (List UInt8)}{a:Option Addr}{n c:Nat}(h:vM B g E cc D r W)(hw:ua W a n c ws W)(hl:∀s∈ws,s.length<=100000)(hat:r.at_<=8)(hc:cc<=100001)(hB:B<=W.heap.size):
 Calls prog 305 #[U g,Z a n c] W (iE B g E cc D ((jk r.x 8 ws).map fun y=>⟨y,((8:Nat):Int),[]⟩) W):=by
 have l:Below W W W.drew:=⟨rfl,rfl,rfl,ag _,fun _ _=>rfl⟩;obtain⟨f,v,s,k,m,H,w⟩:=h.go l;have b3:=w.gB;have a9:=w.cf.1;have b2:=w.c1;obtain⟨css,hO⟩:=w.cf.own hat (by omega);obtain⟨P,fg⟩:=H.cell 8;have a7:=TK H;have b1:B<=W.drew.heap.size:=hB;have Hw:=O (sV hw l);have a1:=O hat;have M:=O l;have HA:=O H;have HL:=O w;have T:=O hO;have Hl:=O hl;clear h hw hat l H w hO hl;obtain⟨K,kn,L⟩:=k
 change W.drew.cell? ⟨g,8,none⟩=some (.slice K kn L)at P
 change kn<=cc at a9
 go_enter func305,ntmps305;refine kC (S:=fun x=>x=g) 11 [(0,true),(1,true),(2,true),(3,true),(4,true),(5,true),(6,true),(7,false),(8,true),(9,false),(10,false)] (by kernel_rfl) (by kernel_rfl) ?_
 iterate 7
  refine gU (v:=?_) ?_ ?_;rotate_left
  .intro y z
   have k1:=(z.cell (p:=⟨g,8,none⟩) rfl).trans P;go_simp;with_reducible rfl
  try simp only[V]
 refine gP (fun C d=>?_);go_simp;refine(nF ws a n c _ W.drew Hw).mono ?_;rintro e w1 ⟨he,rfl⟩
 obtain ⟨x,rfl,rfl⟩|⟨a8,rfl⟩:=lF he
 .refine d _ _ (gN.refl _ _) ?_
  clear d C he;try simp only[V]
  iterate 1
   refine gU (v:=?_) ?_ ?_;rotate_left
   .intro y z
    skip;go_simp;with_reducible rfl
   try simp only[V]
  have hx:=Hl x (by simp);have i:Below W.drew W.drew (W.drew.alloc (.cells [Value.string (bs x),oN].toArray 67)):=(TH _ _).alloc (ag _) _;have j:=HA.go i;have t:=TK j;have b:=kD T.row i
  have a5:B<=(W.drew.alloc (.cells [Value.string (bs x),oN].toArray 67)).heap.size:=by have:=i.size;omega
  refine gP (fun C d=>?_);go_simp;refine d _ _ (fun y z=>iC (by cases z;exact a7)) ?_;clear d C;(try simp only[V]);refine gP (fun C d=>?_);refine nR underlying35 Tryz.infoConfQ rfl (by omega) (by omega) _ _ rfl B _ (.slice K kn L) kn W _ [.string (bs x),oN] rfl b (TL W.drew _) rfl rfl (by simp[Value.oneCell']) (by omega) a5 ?_;intro g2 cap w5 u q a6
  have o:(Value.slice K kn L).ownBlock≠some g:=fun e=>by have:=(gT b e).1;omega
  refine d _ _ (fun y z=>by cases z;exact q.kept g t o) ?_;clear d C;have N:=(q.kept g t o).trans j;obtain⟨a4,b0⟩:=jm.cell N 8
  change w5.cell? ⟨g,8,none⟩=some (.slice K kn L)at a4
  have Q:=O j;have R:=O (HL.go i);have X:=O (T.go ky i);have a0:=O (M.trans i);have F:=O u;have a3:=O q;have Hx:=O hx;clear j i u q b N P fg hx;(try simp only[V]);refine iu rfl ?_;go_wp2;go_end0;exact DI (map_some (k:=8) (IG _ _)) (by rw[Tb];have:=Hx.out;omega) a0 Q R X F a3 a6 a1 hc hB
 .have Hb:=O (show iE B g E cc D ((jk r.x 8 ws).map fun y=>(⟨y,((8:Nat):Int),[]⟩:jL)) W iX W.drew from iE.bad (la (oX (by omega) a8)) M (by omega))
  have A:=Hb.out;unfold iX at A⊢;have a2:=O A;clear A Hb;exact⟨rfl,a2⟩
def lX(r:jL)(a:List UInt8)(ws:List (List UInt8)):Option jL:=
 if a≠lG/\a∈r.seen then none else(ou r.x.l fun y=>Ad y (a::ws)).map fun l=>⟨{r.x with l:=l},7,if a=lG then r.seen else r.seen++[a]⟩
def zb{α:Type}(a:List α)(y:α)(f:α->Option α):ou (a++[y]) f=(f y).map fun z=>a++[z]:=by
 unfold ou;simp
def sW{r:jL}{a:List gM}{y:gM}(b:r.x.l=a++[y])(ws:List (List UInt8)):lX r lG ws=(kF ws [7,0,0]).map fun c=>⟨{r.x with l:=a++[⟨y.s,y.zs++c⟩]},7,r.seen⟩:=by
 unfold lX;rw[aj (by simp),b,zb];unfold Ad;simp only[bX];cases kF ws [7,0,0] <;>rfl
def IH{r:jL}{a:List UInt8}{ws:List (List UInt8)}(h1:a≠lG)(h2:a∈r.seen):lX r a ws=none:=by
 unfold lX;rw[aq ⟨h1,h2⟩]
def LR{r:jL}{a:List UInt8}{ws:List (List UInt8)}(h1:a≠lG)(h2:ws.length≠1):lX r a ws=none:=by
 unfold lX;split
 .rfl
 .have b:∀y,Ad y (a::ws)=none:=fun y=>by
   unfold Ad;simp only[aj h1]
   match ws,h2 with
   |[],_=>rfl
   |[v],h=>simp at h
   |_::_::_,_=>rfl
  unfold ou
  cases r.x.l.getLast? with
  |none=>rfl
  |some y=>simp[b]
def nS{r:jL}{b:List gM}{y:gM}(c:r.x.l=b++[y]){a v:List UInt8}(h1:a≠lG)(h2:a ∉ r.seen):lX r a [v]=if a=lP then some ⟨{r.x with l:=b++[⟨{y.s with gA:=bs v},y.zs⟩]},7,r.seen++[a]⟩else match Dv a with
 |none=>none
 |some d=>(VZ v d).map fun n=>⟨{r.x with l:=b++[⟨Ac y.s a n,y.zs⟩]},7,r.seen++[a]⟩:=by
 unfold lX;rw[aj (fun h=>h2 h.2),c,zb];unfold Ad;simp only[aj h1];split
 .rfl
 .cases Dv a with
  |none=>rfl
  |some d=>cases hv:VZ v d<;>simp[hv]
def JQ(s:List UInt8):∀ks:List (List UInt8),rx (bs s) (ks.map bs)=decide (s∈ks)
 |[]=>rfl
 |k::ks=>by
  have a:=JQ s ks;unfold rx at a⊢;rw[aN,eN,a,NC];by_cases h:s=k
  .subst h;simp
  .have:(s==k)=false:=by rw[ak];exact h
   rw[this];simp[h]
structure DN (fid:FuncId) (off d:Nat) (fw:List UInt8):Prop where
 call:∀b k w,Calls prog fid #[.pointer (some ⟨b,k,none⟩)] w fun e w'=>e=.returned (.pointer (some ⟨b,k+off,none⟩))/\w=w'
 ent:∀args w,(callFunc fid args).run prog w=.ok (.enter fid args) w
 dig:Dv fw=some d
 lt:off<22
 d18:d<=18
 set:∀s a n c z,(gX s a n c).set off (.int .i64 z)=gX (Ac s fw z) a n c
 gA:∀s z,(Ac s fw z).gA=s.gA
def ug{a:List UInt8}{i:Nat}(h:kO.findIdx? (· ==a)=some i):rD a=some (i+1):=by unfold rD;rw[h];rfl
def yo{a:List UInt8}(h:kO.findIdx? (· ==a)=none):rD a=none:=by unfold rD;rw[h];rfl
def yP(p:Nat):oo p<=18:=by unfold oo;split;omega;split<;>omega
def N3(args:Array Value)(w:World):(callFunc 278 args).run prog w=.ok (.enter 278 args) w:=by kernel_rfl
def N4(args:Array Value)(w:World):(callFunc 279 args).run prog w=.ok (.enter 279 args) w:=by kernel_rfl
def N5(args:Array Value)(w:World):(callFunc 280 args).run prog w=.ok (.enter 280 args) w:=by kernel_rfl
def N6(args:Array Value)(w:World):(callFunc 281 args).run prog w=.ok (.enter 281 args) w:=by kernel_rfl
def N7(args:Array Value)(w:World):(callFunc 282 args).run prog w=.ok (.enter 282 args) w:=by kernel_rfl
def N8(args:Array Value)(w:World):(callFunc 283 args).run prog w=.ok (.enter 283 args) w:=by kernel_rfl
def N9(args:Array Value)(w:World):(callFunc 284 args).run prog w=.ok (.enter 284 args) w:=by kernel_rfl
def Oc(args:Array Value)(w:World):(callFunc 285 args).run prog w=.ok (.enter 285 args) w:=by kernel_rfl
def Od(args:Array Value)(w:World):(callFunc 286 args).run prog w=.ok (.enter 286 args) w:=by kernel_rfl
def LS(args:Array Value)(w:World):(callFunc 287 args).run prog w=.ok (.enter 287 args) w:=by kernel_rfl
def LT(args:Array Value)(w:World):(callFunc 288 args).run prog w=.ok (.enter 288 args) w:=by kernel_rfl
def LU(args:Array Value)(w:World):(callFunc 289 args).run prog w=.ok (.enter 289 args) w:=by kernel_rfl
def TY(args:Array Value)(w:World):(callFunc 290 args).run prog w=.ok (.enter 290 args) w:=by kernel_rfl
def LW(args:Array Value)(w:World):(callFunc 291 args).run prog w=.ok (.enter 291 args) w:=by kernel_rfl
def LX(args:Array Value)(w:World):(callFunc 292 args).run prog w=.ok (.enter 292 args) w:=by kernel_rfl
def LY(args:Array Value)(w:World):(callFunc 293 args).run prog w=.ok (.enter 293 args) w:=by kernel_rfl
def LZ(args:Array Value)(w:World):(callFunc 294 args).run prog w=.ok (.enter 294 args) w:=by kernel_rfl
def Cw(i:Nat)(hi:i<17):∀args w,(callFunc (QB i) args).run prog w=.ok (.enter (QB i) args) w:=by
 match i,hi with
 |0,_=>exact N3
 |1,_=>exact N4
 |2,_=>exact N5
 |3,_=>exact N6
 |4,_=>exact N7
 |5,_=>exact N8
 |6,_=>exact N9
 |7,_=>exact Oc
 |8,_=>exact Od
 |9,_=>exact LS
 |10,_=>exact LT
 |11,_=>exact LU
 |12,_=>exact TY
 |13,_=>exact LW
 |14,_=>exact LX
 |15,_=>exact LY
 |16,_=>exact LZ
 |i+17,hi=>omega
def L0{e:List UInt8}{i:Nat}(h:kO.findIdx? (· ==e)=some i):DN (QB i) (Iv i) (oo (i+1)) e:=by
 have hi:i<17:=qN h;have d:=ug h;refine⟨fun b k w=>JN i hi b k w,Cw i hi,by unfold Dv;rw[d],?_,yP _,fun s a n c z=>?_,fun s z=>?_⟩
 .have:∀i,i<17->Iv i<22:=by decide
  exact this i hi
 .unfold Ac;rw[d]
  match i,hi with
  |0,_=>rfl
  |1,_=>rfl
  |2,_=>rfl
  |3,_=>rfl
  |4,_=>rfl
  |5,_=>rfl
  |6,_=>rfl
  |7,_=>rfl
  |8,_=>rfl
  |9,_=>rfl
  |10,_=>rfl
  |11,_=>rfl
  |12,_=>rfl
  |13,_=>rfl
  |14,_=>rfl
  |15,_=>rfl
  |16,_=>rfl
  |i+17,hi=>omega
 .unfold Ac;rw[d]
  match i,hi with
  |0,_=>rfl
  |1,_=>rfl
  |2,_=>rfl
  |3,_=>rfl
  |4,_=>rfl
  |5,_=>rfl
  |6,_=>rfl
  |7,_=>rfl
  |8,_=>rfl
  |9,_=>rfl
  |10,_=>rfl
  |11,_=>rfl
  |12,_=>rfl
  |13,_=>rfl
  |14,_=>rfl
  |15,_=>rfl
  |16,_=>rfl
  |i+17,hi=>omega
def Ax:DN 295 15 6 lB:=
 ⟨fun b k w=>NN b k w,fun args w=>by kernel_rfl,by decide,by omega,by omega,fun s a n c z=>rfl,fun s z=>rfl⟩
def yq:DN 296 11 0 kj:=
 ⟨fun b k w=>Ls b k w,fun args w=>by kernel_rfl,by decide,by omega,by omega,fun s a n c z=>rfl,fun s z=>rfl⟩
def Xq{a:List UInt8}(h:kO.findIdx? (· ==a)=none)(h1:a≠lB)(h2:a≠kj):Dv a=none:=by
 unfold Dv;rw[yo h];simp only[aj h1,aj h2]
def my.cell{B:Nat}{D:Nat->Prop}{W:World}{c:Nat}{p:iJ}{m:Value}{l:List gM}{seen:List (List UInt8)}{b:List gM}{y:gM}{css:List (List Value)}{q:iJ}{d cap k:Nat}(h:my B D W c p m l seen b y css q d cap k){j:Nat}(u:j<22):W.cell? ⟨d,b.length*22+j,none⟩=(gX y.s q.a q.n q.c)[j]? /\W.frozen? ⟨d,b.length*22+j,none⟩=false:=by
 obtain ⟨e,_⟩|⟨t,i,r,e,v,g,w,x,z,o⟩:=h.row.2
 .cases e
 .cases e
  refine⟨?_,gD g _⟩;rw[VV g];have f:=ai (fun l=>l[b.length*22+j]?) o;rw[cZ,aq (by omega),aY (by rw[h.flat];omega),h.flat,dR]at f;rw[<- f];simp
def qL.cell{B:Nat}{D:Nat->Prop}{W:World}{c:Nat}{p:iJ}{l b:List jd}{y:jd}{css:List (List Value)}{q:iJ}{d cap:Nat}(h:qL B D W c p l b y css q d cap){j:Nat}(r:j<2):W.cell? ⟨d,b.length*2+j,none⟩=[Value.string y.nm,.slice q.a q.n q.c][j]? /\W.frozen? ⟨d,b.length*2+j,none⟩=false:=by
 obtain ⟨e,_⟩|⟨o,i,m,e,s,g,t,u,v,k⟩:=h.row.2
 .cases e
 .cases e
  refine⟨?_,gD g _⟩;rw[VV g];have f:=ai (fun l=>l[b.length*2+j]?) k;rw[cZ,aq (by omega),aY (by rw[h.flat];omega),h.flat,dR]at f;rw[<- f];simp
def Ay{W:World}{A c B:Nat}{v:List UInt8}{ws:List (List UInt8)}(h:ua W (J A) (ws.length+1) c (v::ws) B):ua W (some ⟨A,1,none⟩) ws.length (c-1) ws B:=by
 obtain⟨_,h2,h3⟩:=h;refine⟨rfl,by omega,fun h0=>?_⟩;obtain⟨g,off,e,a,h5⟩:=h3 (by omega);cases e;refine⟨A,1,rfl,a,fun j x b=>?_⟩;have:=h5 (j+1) x (by simpa using b);rw[show(1:Nat)+j=0+(j+1)by omega];exact this
def sT.word{B:Nat}{D:Nat->Prop}{W:World}{T:TypeId}{k:Nat}{p:iJ}{zs:List Int}(h:sT B D W T k p zs)(r:0<k){A:Nat}{s:ByteArray}(l:W.cell? (J A)=some (.string s)):p.v.ownBlock≠some A:=by
 intro e;obtain⟨a,n,c⟩:=p;have f:=h.pos;have d:=h.row
 cases a with
 |none=>cases e
 |some o=>
  have q:o.block=A:=by simpa[iJ.v,Value.ownBlock]using e
  have t:0<n:=bq fun h0=>by cases f h0
  rcases(mz d).2 with⟨i,_⟩|⟨g,cap,i,_,_,b⟩
  .cases i
  .cases i
   have m:=d.1;rw[aU]at m
   have h0:0<(zs.map (Value.int .i64)).length:=by rw[aU,m];exact dZ t r
   have:=b.cell (j:=0) h0;rw[<- q]at l;rw[l]at this;simp at this
def my.go{B:Nat}{D:Nat->Prop}{W W':World}{c:Nat}{p:iJ}{m:Value}{l:List gM}{seen:List (List UInt8)}{f:List gM}{y:gM}{css:List (List Value)}{q:iJ}{a cap d:Nat}(h:my B D W c p m l seen f y css q a cap d)(hb:Below W W W'):my B D W' c p m l seen f y css q a cap d:=h.keep (fun b _ e=>hb.block b e) hb.size
def qL.go{B:Nat}{D:Nat->Prop}{W W':World}{c:Nat}{p:iJ}{l e:List jd}{y:jd}{css:List (List Value)}{q:iJ}{a cap:Nat}(h:qL B D W c p l e y css q a cap)(hb:Below W W W'):qL B D W' c p l e y css q a cap:=h.keep (fun b _ d=>hb.block b d) hb.size
def mf{B g:Nat}{a:Int}{c:Nat}{D:Nat->Prop}{d:Option jL}{W f W':World}{e:Ending}(h:iE B g a c D d f e W')(hb:Below W W f)(o:g<=W.heap.size):iE B g a c D d W e W':=by
 obtain⟨h1,h2,h3⟩:=h;have r:=hb.size;refine⟨(hb.mono o).trans h1,fun k p n=>(h2 k (by omega) n).trans (hb.block k p),h3.imp ?_ id⟩;rintro⟨q,j,l,D',m,h5⟩;exact⟨q,j,l,D',fun b i=>(m b i).imp id (fun h=>by omega),h5⟩
def II{B g c f:Nat}{D:Nat->Prop}{d:Option jL}{a W:World}(o:d=none)(n:∀b,b<a.heap.size->b≠f->W.heap[b]? =a.heap[b]?)(h:Below B a W)(i:D f)(m:g<=B):iE B g 7 c D d a iX W:=
 ⟨h.mono m,fun k j l=>n k j (fun e=>l (by rw[e];exact i)),VS ⟨o,rfl⟩⟩
def Oe{W:World}{b:Nat}(d e f:Nat)(a:W.heap[b]? =some (.cells #[.int .i64 (d:Int),.int .i64 (e:Int),.int .i64 (f:Int)] 3 (0,0))):SL W W (J b) 3 3 ([d,e,f].map fun(x:Nat)=>(x:Int)):=by
 refine⟨rfl,ag _,fun _=>⟨b,0,rfl,TK a,fun j c=>?_⟩⟩
 match j,c with
 |0,_=>exact VV a 0
 |1,_=>exact VV a 1
 |2,_=>exact VV a 2
 |j+3,c=>omega
def Tryz.zeroPar(w:World):(zeroValue 83).run prog w=.ok (.agg #[.string {data:=#[]},oZ,.nilFunc]) w:=by kernel_rfl
def my.upd{B:Nat}{D:Nat->Prop}{a W W':World}{c:Nat}{p:iJ}{m:Value}{l:List gM}{seen:List (List UInt8)}{r:List gM}{y:gM}{css:List (List Value)}{q:iJ}{g cap d:Nat}{i:List UInt8}(h:my B D a c p m l seen r y css q g cap d)(hb:Below a a W)
 (s:oC W' d ((seen.map bs)++[bs i]))(n:W.grownBy W' (some d))(j:B<=a.heap.size):
 my B D W' c p m l (seen++[i]) r y css q g cap d/\(∀b,b<a.heap.size->b≠d->W'.heap[b]? =a.heap[b]?)/\Below B a W':=by
 have o:∀b,b<a.heap.size->b≠d->W'.heap[b]? =a.heap[b]? :=fun b h1 h2=>(n.block b (eb h1 hb.size) (fun e=>h2 (by cases e;rfl))).trans (hb.block b h1)
 have f:Below B a W':=(hb.mono j).grown n (af j hb.size) (fun k e=>by cases e;exact h.bmB);exact⟨h.mapSet o f.size (by rw[aT];exact s),o,f⟩
def mp{ops:Array Oper}{a:List Oper}{e:Oper}{c:Act}{w:World}{Q:Exit->Act->World->Prop}{b:Nat}{t u z0 f:Value}{s:ByteArray}{d:Int}(hb:w.heap[b]? =some (.cells #[t,u,z0] 83 (0,0)))(hf:f.oneCell'=true)(i:e.guard=none)(p q:Operand)(n:e.op=.store 83 p q)
 (o:c.eval p=.pointer (J b))(r:c.eval q=.agg #[s,d,f])
 (m:∀w',w'.heap[b]? =some (.cells #[s,d,f] 83 (0,0))->(∀B w0,B<=b->Below B w0 w->Below B w0 w')->wpList prog ops Q a (c.put e.dst undef) w'):wpList prog ops Q (e::a) c w:=by
 refine wpList_store_mid i 83 p q n b 0 #[s,d,f] o r (fun j g=>?_) Tryz.infoPar (all_oneCell_toArray (cs:=[.string s,.int .i64 d,f]) (by intro v k;simp only[aS,bi,cR]at k;obtain rfl|rfl|rfl:=k;rfl;rfl;exact hf)) ?_
 .match j,g with
  |0,_=>simp[World.cell?,World.frozen?,hb]
  |1,_=>simp[World.cell?,World.frozen?,hb]
  |2,_=>simp[World.cell?,World.frozen?,hb]
  |j+3,g=>simp at g;omega
 .refine m _ ?_ (fun B w0 l h=>?_)
  .have:=tH hb 0 [s,d,f] (by simp)
   simpa using this
  .exact ig l _ _ h
def L4(a:List UInt8):∃(nm:List UInt8)(d:Nat)(F:Value),(yE a).getD (.agg #[.string {data:=#[]},oZ,.nilFunc])=.agg #[.string (bs nm),.int .i64 (d:Int),F]/\((yE a).isSome=true->kO.findIdx? (· ==a)=none/\ ∃b off,F=.func (.func b) #[] #[]/\DN b off d a)/\((yE a).isSome=false->a≠lB/\a≠kj)/\F.oneCell'=true:=by
 by_cases h1:a=lB
 .subst h1
  exact⟨lB,6,_,rfl,fun _=>⟨by decide,_,15,rfl,Ax⟩,(fun h=>by cases h),rfl⟩
 .by_cases h2:a=kj
  .subst h2
   exact⟨kj,0,_,rfl,fun _=>⟨by decide,_,11,rfl,yq⟩,(fun h=>by cases h),rfl⟩
  .have:yE a=none:=by unfold yE;rw[aj h1,aj h2]
   rw[this];exact⟨[],0,.nilFunc,rfl,(fun h=>by cases h),(fun _=>⟨h1,h2⟩),rfl⟩
def L6{B g cc A n c N:Nat}{D:Nat->Prop}{r:jL}{W:World}{d:List UInt8}{ws:List (List UInt8)}(h:vM B g 7 cc D r W)(hat:r.at_=7)(hw:ua W (J A) n c (d::ws) W)(hl:∀s∈d::ws,s.length<=100000)(hn:ws.length<=100000)
 (hc:cc<=100001)(hB:B<=W.heap.size)(hg:GW W)(hT:TW N W)(g7:N<=B):
 Calls prog 122 #[U g,Z (J A) n c] W (iE B g 7 cc D (lX r d ws) W):=by
 have c4:Below W W W.drew:=⟨rfl,rfl,rfl,ag _,fun _ _=>rfl⟩;have f5:=sV hw c4;obtain⟨f,v,s,k,m,hA,hL⟩:=h.go c4;have o6:=hL.gB
 obtain ⟨h7,_⟩|⟨_,T,y,css,q,bb,cap,bm,hS⟩|⟨h7,_⟩:=hL.l.2
 .omega
 .have e1:=hS.ep
  have e2:=hS.em;subst e1;subst e2;have c7:W.drew.cell? ⟨g,7,none⟩=some (.slice (J bb) (T.length+1) cap):=(hA.cell 7).1;have f1:g<W.drew.heap.size:=TK hA
  have n5:T.length+1<=cap:=by
   obtain ⟨e,_⟩|⟨g',m9,n9,e,_,_,h3,_⟩:=hS.row.2
   .cases e
   .cases e;exact h3
  have o7:T.length<=100001:=by have:=hL.l.1;have:T.length+1<=cc:=this;omega
  have m5:n=ws.length+1:=by have:=hw.1;simp at this;omega
  subst m5;have o4:ws.length+1<=c:=hw.2.1
  have a4:W.drew.cell? (J A)=some (.string (bs d)):=by
   obtain⟨g',off,e,_,h3⟩:=f5.2.2 (by omega);cases e;exact h3 0 d rfl
  have d7:A<W.drew.heap.size:=by
   obtain⟨g',off,e,h3,_⟩:=f5.2.2 (by omega);cases e;exact h3
  have HA:=O hA;have HL:=O hL;have H:=O hS;have Hw:=O f5;have Hl:=O hl;have Hg:=O (hg.below c4);have HT:=O (hT.below (c4.mono (af g7 hB)));have Hd:=O c4;have Hn:=O hn;have e4:=O hat;have l6:B<=W.drew.heap.size:=hB;clear hA hL hS f5 hl hg hT c4 hw h hn hat;go_enter func122,ntmps122;go_upto_region 0 with fail;refine gS 13 [(0,true),(1,true),(2,true),(3,true),(4,true),(5,true),(6,true),(7,true),(8,true),(9,true),(10,true),(11,true),(12,true)] (by kernel_rfl) (by kernel_rfl) ?_;have f9:IntKind.i64.wrap (T.length:Int)=(T.length:Int):=TM _ (by omega)
  iterate 11
   refine gU (v:=?_) ?_ ?_;rotate_left
   .intro y j
    have k1:=(j.cell (p:=⟨g,7,none⟩) f1).trans c7;go_simp;with_reducible rfl
   try simp only[V]
  iterate 2
   refine gU (v:=?_) ?_ ?_;rotate_left
   .intro y j
    go_simp
    try rw[f9]
    try rw[aq (show(T.length:Int) <(T.length:Int)+1 by omega)]
    try with_reducible rfl
   try simp only[V]
  refine iu rfl ?_;by_cases hf:d=lG
  .subst hf
   have hq:(bs lG==({data:=#[102,105,108,109]}:ByteArray))=true:=by decide
   have b7:Below W.drew W.drew (W.alloc (.cells #[.int .i64 ((7:Nat):Int),.int .i64 ((0:Nat):Int),.int .i64 ((0:Nat):Int)] 3)).drew:=(TH W.drew W.drew).alloc (ag _) (.cells #[.int .i64 ((7:Nat):Int),.int .i64 ((0:Nat):Int),.int .i64 ((0:Nat):Int)] 3);have i7:(W.alloc (.cells #[.int .i64 ((7:Nat):Int),.int .i64 ((0:Nat):Int),.int .i64 ((0:Nat):Int)] 3)).drew.heap[W.heap.size]? =some (.cells #[.int .i64 ((7:Nat):Int),.int .i64 ((0:Nat):Int),.int .i64 ((0:Nat):Int)] 3 (0,0)):=TL W _;by_cases m0:c=1
   .subst m0
    obtain rfl:ws=[]:=aX.1 (by omega);go_wp2_with fail;refine(sS [] [7,0,0] _ _ 0 3 _ 3 _ ⟨rfl,ag _,fun h0=>absurd h0 (by omega)⟩ (Oe 7 0 0 i7) (by omega) (by omega) (fun s hs=>by cases hs) (by decide) (Hg.below b7)).mono ?_;rintro e w2 M;have Q:kF [] [7,0,0]=none:=rfl;unfold mu at M;rw[Q]at M;obtain⟨rfl,a0⟩:=M;have hb:iE B g 7 cc D (lX r lG []) W iX w2:=iE.bad (by rw[sW H.el,Q];rfl) (Hd.trans (I b7 a0)) (by omega);have P:=hb;clear hb Q a0 b7 c7 a4 hq;unfold iX at P⊢;have b5:=O P;clear P;go_wp2_with fail;exact⟨rfl,b5⟩
   .go_wp2_with fail
    refine(sS ws [7,0,0] _ _ ws.length 3 _ 3 _ (sV (Ay Hw) b7) (Oe 7 0 0 i7) (by have:=Hn.out;omega) (by omega) (fun s hs=>Hl s (au _ hs)) (by decide) (Hg.below b7)).mono ?_;rintro e w2 M;have b4:=O b7;clear b7 hq
    cases Q:kF ws [7,0,0]with
    |none=>
     unfold mu at M;rw[Q]at M;obtain⟨rfl,a0⟩:=M;have hb:iE B g 7 cc D (lX r lG ws) W iX w2:=iE.bad (by rw[sW H.el,Q];rfl) (Hd.trans (I b4 a0)) (by omega);have P:=hb;clear hb Q a0 b4 c7 a4;unfold iX at P⊢;have b5:=O P;clear P;go_wp2_with fail;exact⟨rfl,b5⟩
    |some zs=>
     have hz:=qj _ _ _ Q;unfold mu at M;rw[Q]at M;obtain⟨⟨a2,c2,rfl,hs,m2⟩,a0⟩:=M
     obtain⟨z0,z1,z2,rfl⟩:∃z0 z1 z2,zs=[z0,z1,z2]:=by
      have:zs.length=3:=by rw[hz.1,hz.2];rfl
      match zs,this with
      |[x,y,z],_=>exact⟨x,y,z,rfl⟩
     obtain⟨b,off,rfl,j1,e8⟩:=hs.at (by show 0<3;omega)
     have o2:W.heap.size<b:=by have:=m2 b rfl;simp at this;omega
     have n0:w2.cell? ⟨b,off,none⟩=some (.int .i64 z0):=e8 0 (by show 0<3;omega);have n1:w2.cell? ⟨b,off+1,none⟩=some (.int .i64 z1):=e8 1 (by show 1<3;omega);have n2:w2.cell? ⟨b,off+2,none⟩=some (.int .i64 z2):=e8 2 (by show 2<3;omega);have o3:3<=c2:=hs.2.1;have hA:=HA.go (I b4 a0);have hL:=HL.go (I b4 a0);have hS:=H.go (I b4 a0)
     have hr:lX r lG ws=some ⟨{r.x with l:=T++[⟨y.s,y.zs++[z0,z1,z2]⟩]},7,r.seen⟩:=by rw[sW hS.el,Q];rfl
     have n6:=TK hA;have l9:=hS.bbB;obtain⟨cg,fg⟩:=hS.cell (show 21<22 by omega)
     change w2.cell? ⟨bb,T.length*22+21,none⟩=some (.slice q.a q.n q.c)at cg
     have m7:=hS.qn;have l1:=O (show∀b,q.v.ownBlock=some b->b<W.drew.heap.size from fun b e=>(gT H.p8.row e).2);have Hr:=O hr;have Hb:=O (Hd.trans (I b4 a0));have j7:=O hA;have j9:=O hL;have k0:=O hS;have n4:=H.bbB.2
     have o1:B<=w2.heap.size:=by have:=(I b4 a0).size;omega
     clear hr hA hL hS a0 Q hz e8 hs b4 Hw HA HL H c7 a4;obtain⟨qa,qn,qc⟩:=q
     change w2.cell? ⟨bb,T.length*22+21,none⟩=some (.slice qa qn qc)at cg
     change qn<=cc at m7
     go_upto_region 3 with fail;refine kC (S:=fun x=>x=bb\/x=b) 17 [(0,true),(1,true),(2,true),(3,true),(4,true),(5,true),(6,true),(7,true),(8,true),(9,true),(10,true),(11,true),(12,true),(13,true),(14,true),(15,false),(16,false)] (by kernel_rfl) (by kernel_rfl) ?_
     iterate 15
      refine gU (v:=?_) ?_ ?_;rotate_left
      .intro y j
       have k1:=(j.cell (p:=⟨bb,T.length*22+21,none⟩) (VR rfl)).trans cg;have k2:=(j.cell (p:=⟨b,off,none⟩) (VS rfl)).trans n0;have k3:=(j.cell (p:=⟨b,off+1,none⟩) (VS rfl)).trans n1;have k4:=(j.cell (p:=⟨b,off+2,none⟩) (VS rfl)).trans n2;go_simp;with_reducible rfl
      try simp only[V]
     refine gP (fun K hK=>?_);go_simp;refine hK _ _ (fun x hx=>iC (by obtain rfl|rfl:=hx;exact l9.2;exact j1)) ?_;clear hK K;(try simp only[V]);have X:Below w2 w2 (w2.drew.alloc (.cells [Value.int .i64 z0,.int .i64 z1,.int .i64 z2].toArray 60)):=gY ((TH _ _).drew);have g5:=j7.go X;have i9:=j9.go X;have c3:=k0.go X;have i0:=eb j1 X.size
     have l5:B<=(w2.drew.alloc (.cells [Value.int .i64 z0,.int .i64 z1,.int .i64 z2].toArray 60)).heap.size:=by have:=X.size;omega
     have n7:=TK g5;have e7:=c3.bbB;refine gP (fun K hK=>?_);refine nR underlying56 Tryz.infoFilm3 rfl (by omega) (by omega) _ _ rfl B _ (.slice qa qn qc) qn w2 _ [.int .i64 z0,.int .i64 z1,.int .i64 z2] rfl c3.p8.row (TL w2.drew _) rfl rfl (by simp[Value.oneCell']) (by omega) l5 ?_;intro g2 n3 t f3 f0 m3;have f2:(Value.slice qa qn qc).ownBlock≠some bb:=c3.ne.1
     have i1:(Value.slice qa qn qc).ownBlock≠some b:=fun e=>by have h9:b<W.heap.size:=l1 b e;omega
     refine hK _ _ (fun x hx=>f0.kept x (by obtain rfl|rfl:=hx;exact e7.2;exact i0) (by obtain rfl|rfl:=hx;exact f2;exact i1)) ?_;clear hK K
     have f8:t.cell? ⟨bb,T.length*22+21,none⟩=some (.slice qa qn qc)/\t.frozen? ⟨bb,T.length*22+21,none⟩=false:=by
      have hk:=f0.kept bb e7.2 f2;obtain⟨q1,q2⟩:=c3.cell (show 21<22 by omega);exact⟨by simp only[World.cell?,hk];exact q1,by simp only[World.frozen?,hk];exact q2⟩
     obtain⟨i5,l2⟩:=f8;have HA:=O g5;have HL:=O i9;have H:=O c3;have Hb:=O (I Hb X);have h4:=O f3;have k6:=O f0;clear g5 i9 c3 X f3 f0 cg fg n0 n1 n2;(try simp only[V]);refine iu rfl ?_;go_wp2;go_end0;exact ID Hr e4 Hb HA HL H h4 k6 m3 hB hc
  .have o5:(d==[102,105,108,109])=false:=by rw[ak];exact hf
   obtain⟨c1,o0⟩:=HA.cell 10
   change W.drew.cell? ⟨g,10,none⟩=some (.map (some bm))at c1
   have h6:bm<W.drew.heap.size:=H.map.lt;have Hf:=O hf;clear hf;go_upto_region 4 with fail;by_cases h1:ws.length=1
   .obtain⟨F,rfl⟩:∃F,ws=[F]:=by
     match ws,h1 with
     |[x],_=>exact⟨x,rfl⟩
    have e5:=O (JQ d r.seen)
    have g4:W.drew.cell? ⟨A,1,none⟩=some (.string (bs F)):=by
     obtain⟨g',off,e,_,h3⟩:=Hw.2.2 (by simp);cases e;exact h3 1 F rfl
    have d1:=O H.map;refine gS 14 [(0,true),(1,true),(2,true),(3,true),(4,true),(5,true),(6,true),(7,true),(8,true),(9,true),(10,true),(11,true),(12,true),(13,true)] (by kernel_rfl) (by kernel_rfl) ?_
    iterate 14
     refine gU (v:=?_) ?_ ?_;rotate_left
     .intro y j
      have k1:=(j.cell (p:=⟨g,10,none⟩) f1).trans c1;have k2:=(j.cell (p:=J A) d7).trans a4;have k3:=tO underlying162 underlying9 (Tryz.zeroBool y) (d1.block (j.block bm h6)) (bs d);go_simp;with_reducible rfl
     try simp only[V]
    refine iu rfl ?_;by_cases c8:d∈r.seen
    .have j4:rx (bs d) (r.seen.map bs)=true:=by rw[e5];exact aP c8
     have hb:iE B g 7 cc D (lX r d [F]) W iX W.drew.drew:=iE.bad (IH Hf c8) Hd.drew (by omega);have P:=hb;clear hb c8 c1 a4 g4 c7;unfold iX at P;have b5:=O P;clear P;go_wp2_with fail;refine(lm _).mono ?_;rintro e t ⟨rfl,rfl⟩;unfold iX;go_wp2_with fail;exact⟨rfl,b5⟩
    .have j4:rx (bs d) (r.seen.map bs)=false:=by rw[e5];exact aw c8
     have c0:=O c8;clear c8;go_wp2_with fail;refine(kW _).mono ?_;rintro e t ⟨rfl,rfl⟩;go_upto_region 5 with fail;refine gS 7 [(0,true),(1,true),(2,true),(3,true),(4,true),(5,true),(6,true)] (by kernel_rfl) (by kernel_rfl) ?_
     iterate 7
      refine gU (v:=?_) ?_ ?_;rotate_left
      .intro y j
       have k1:=(j.cell (p:=⟨g,10,none⟩) f1).trans c1;have k2:=(j.cell (p:=J A) d7).trans a4;go_simp;with_reducible rfl
      try simp only[V]
     refine iu rfl ?_
     have i8:A≠bm:=fun e=>by
      obtain⟨es,j6,hm,_⟩:=d1;rw[e,World.cell?,hm]at a4;cases a4
     have m4:g≠bm:=fun e=>by have:=H.bmB;omega
     refine qV underlying162 underlying9 rfl (.tmp 67) (.tmp 70) (.const (.bool true)) rfl (b:=bm) (ks:=r.seen.map bs) d1 (bs d) j4 rfl rfl rfl ?_;intro t j3 j0;obtain⟨e3:HQ _,Hk3:HQ _,Hbe3:HQ _⟩:=H.upd (by exact⟨rfl,rfl,rfl,ag _,fun _ _=>rfl⟩) j3 j0 l6;clear j3 j0;have h5:jm t g r.x 7 f v ⟨some ⟨bb,0,none⟩,T.length+1,cap⟩ k (.map (some bm)):=(Hk3 g f1 m4).trans HA;have f4:=Hbe3.size
     have e6:t.cell? (J A)=some (.string (bs d)):=by rw[<- a4];simp only[World.cell?,Hk3.out A d7 i8]
     have i6:t.cell? ⟨A,1,none⟩=some (.string (bs F)):=by rw[<- g4];simp only[World.cell?,Hk3.out A d7 i8]
     have R:A<t.heap.size:=eb d7 f4;have d5:=O (HT.below (Hbe3.mono g7));have i4:=O (Hg.of (Hbe3.mono g7) HT.glo);have g1:=O (show∀W',Below t t W'->lX r d [F]=none->iE B g 7 cc D (lX r d [F]) W iX W' from fun W' hb hr=>II hr (fun b h1 h2=>(hb.block b (eb h1 f4)).trans (Hk3 b h1 h2)) (Hd.mono hB|>.trans (Hbe3.trans (hb.mono (by omega)))) H.dbm (by omega));clear h5 c7 c1 a4 g4;by_cases hgl:d=lP
     .subst hgl
      have hr:lX r lP [F]=some ⟨{r.x with l:=T++[⟨{y.s with gA:=bs F},y.zs⟩]},7,r.seen++[lP]⟩:=by rw[nS H.el Hf c0,aq rfl]
      obtain⟨i5,l2⟩:=e3.cell (show 13<22 by omega)
      change t.cell? ⟨bb,T.length*22+13,none⟩=some (.string y.s.gA)at i5
      have Hr:=O hr;clear hr;go_wp2;go_end0;exact mf (xr Hr e4 HA HL H Hk3 Hbe3 e3.map (off:=13) (by omega) rfl (by show(bs F).size<=_;rw[Tb];have:=Hl F (by simp);omega) hc) Hd (by omega)
     .have e9:(d==[103,108,97,115,115])=false:=by rw[ak];exact hgl
      obtain⟨m8,d0,F0,hO,c9,c6,g6⟩:=L4 d;obtain⟨ob,ol,m6,n8,j5,c5⟩:=d5.oth
      have i2:ob<t.heap.size:=by omega
      have l7:2<t.heap.size:=eb (eb (show 2<14 by decide) HT.glo) (by omega)
      have j2:∀y,Below t t y->(Instr.lookup 128 (.map (some ob)) (.string (bs d)) true).run prog y=.ok (.tuple #[.agg #[.string (bs m8),.int .i64 (d0:Int),F0],.bool (yE d).isSome]) y:=fun y j=>by
       rw[mM underlying128 underlying9 (Tryz.zeroPar y) (j5.block (j.block ob i2)) d true,c5 d,hO];rfl
      have b9:=O hgl;have f7:=O c9;have f6:=O c6;have k7:=O j2;clear hgl hO c9 c6 j5 c5 j2 e9;generalize(yE d).isSome=ok0 at*
      have e9:(d==[103,108,97,115,115])=false:=by rw[ak];exact b9
      go_upto_region 8 with fail;refine ic 9 [7] [(8,6,.cells #[.string {data:=#[]},oZ,.nilFunc] 83)] [(0,true),(1,true),(2,true),(3,true),(4,true),(5,true),(6,true),(7,true)] (by kernel_rfl) (by kernel_rfl) ⟨by simp,by simp,by(simp only[ct];exact⟨⟨by omega,_,rfl,rfl,rfl,fun _ _=>rfl⟩,fun _ h=>by cases h⟩)⟩ (fun _ _ _ _ _ h=>h) (fun _ _ o _ _ h=>by cases o<;>exact h) ?_
      iterate 7
       refine gZ (v:=?_) ?_ ?_;rotate_left
       .intro y j
        have k1:=(j.cell (p:=J 2) l7).trans m6;have k2:=(j.cell (p:=J A) R).trans e6;have k3:=k7 y (gJ (k:=1) j);go_simp;with_reducible rfl
       try simp only[V]
      iterate 1
       refine iy (v:=?_) ?_ ?_;rotate_left
       .intro y
        go_simp;with_reducible rfl
       try simp only[V]
      refine nV (l:=[_,_]) rfl (fun b1 w4 hC l8 g8=>?_);have d2:Below t t w4:=gJ (k:=1) l8
      cases hfi:kO.findIdx? (· ==d)with
      |none=>
       have m1:tk d= -1:=by unfold tk;rw[hfi];rfl
       cases ok0 with
       |false=>
        obtain⟨k8:HQ _,Hn2:HQ _⟩:=f6 rfl;have k9:=O (show lX r d [F]=none by rw[nS H.el Hf c0,aj b9.out,Xq hfi k8 Hn2]);have i3:=O hfi;clear hfi
        go_wp2_with(first
         |(refine mp g8 g6 rfl (.tmp 6) (.tmp 87) rfl rfl rfl ?_;intro w5 (b3:HQ _) hbe5;have C:=hbe5 t t hC d2;have e0:=(C.cell (p:=J A) R).trans e6;have w:=O C;clear hbe5 C)
         |(refine(uc d N _ (d5.below (w.mono (by omega))) (by have:=w.size;omega)).mono ?_;rintro e w6 ⟨rfl,a6⟩;have a7:=O (I w a6);have d9:=O ((a6.block b1 (TK b3)).trans b3);clear a6))
        refine(lm _).mono ?_;rintro e w8 ⟨rfl,rfl⟩;have b2:=g1 _ a7 k9;unfold iX at b2⊢;have k5:=O b2;clear b2;go_wp2_with fail;exact⟨rfl,k5⟩
       |true=>
        obtain⟨_,l4,off,rfl,a3:HQ _⟩:=f7 rfl;have i3:=O hfi;clear hfi
        go_wp2_with(first
         |(refine mp g8 g6 rfl (.tmp 6) (.tmp 87) rfl rfl rfl ?_;intro w5 (b3:HQ _) hbe5;have C:=hbe5 t t hC d2;have e0:=(C.cell (p:=J A) R).trans e6;have w:=O C;clear hbe5 C)
         |(refine(uc d N _ (d5.below (w.mono (by omega))) (by have:=w.size;omega)).mono ?_;rintro e w6 ⟨rfl,a6⟩;have a7:=O (I w a6);have d9:=O ((a6.block b1 (TK b3)).trans b3);clear a6))
        refine(kW _).mono ?_;rintro e w8 ⟨rfl,rfl⟩;have E:=a3.out;have b0:=d9.out;have a1:=a7;go_upto_region 13 with fail;have e1:w6.cell? ⟨b1,1,none⟩=some (.int .i64 (d0:Int)):=VV b0 1;have e2:w6.cell? ⟨b1,2,none⟩=some (.func (.func l4) #[] #[]):=VV b0 2;have a9:=TK b0;have d6:w6.cell? ⟨A,1,none⟩=some (.string (bs F)):=(a1.cell (p:=⟨A,1,none⟩) R).trans i6;have d4:A<w6.heap.size:=eb R a1.size;refine gS 11 [(0,true),(1,true),(2,true),(4,true),(5,true),(6,true),(7,true),(8,true),(3,false),(9,false),(10,true)] (by kernel_rfl) (by kernel_rfl) ?_
        iterate 8
         refine gU (v:=?_) ?_ ?_;rotate_left
         .intro y j
          have k1:=(j.cell (p:=⟨b1,1,none⟩) a9).trans e1;have k2:=(j.cell (p:=⟨b1,2,none⟩) a9).trans e2;have k3:=(j.cell (p:=⟨A,1,none⟩) d4).trans d6;go_simp;with_reducible rfl
         try simp only[V]
        refine gP (fun KK a5=>?_);have d3:=E.ent;go_simp;clear d3;refine(E.call bb (T.length*22) _).mono ?_;rintro e w7 ⟨rfl,rfl⟩;refine a5 _ _ (TH _ _) ?_;clear a5 KK;(try simp only[V]);refine gP (fun KK a5=>?_);go_simp;refine(mL F d0 _ (Hl F (by simp)) E.d18 (i4.below a1.drew)).mono ?_;rintro e w7 ⟨M,b8⟩;have L:Below t t w7:=a1.drew.trans (b8.mono a1.size)
        cases Q:VZ F d0 with
        |none=>
         unfold kX at M;rw[Q]at M;subst M;have b2:=g1 w7 L (by rw[nS H.el Hf c0,aj b9.out,E.dig];show(VZ F d0).map _=none;rw[Q];rfl);unfold iX at b2⊢;exact⟨rfl,b2⟩
        |some z=>
         unfold kX at M;rw[Q]at M;subst M;refine a5 _ _ b8 ?_;clear a5 KK;try simp only[V]
         have hr:lX r d [F]=some ⟨{r.x with l:=T++[⟨Ac y.s d z,y.zs⟩]},7,r.seen++[d]⟩:=by
          rw[nS H.el Hf c0,aj b9.out,E.dig]
          show(VZ F d0).map _=_
          rw[Q];rfl
         have b6:=e3.go L;obtain⟨g3,l3⟩:=b6.cell E.lt;obtain⟨u7,d8⟩:∃u,(gX y.s q.a q.n q.c)[off]? =some u:=⟨_,ae (by show off<22;exact E.lt)⟩;rw[d8]at g3;have Hr:=O hr;have g0:=O b6;have a8:=O L;have a3:=O E;clear hr b6 L E d8 Q b8 e1 e2 b0 d6
         iterate 1
          refine gU (v:=?_) ?_ ?_;rotate_left
          .intro y j
           skip;go_simp;with_reducible rfl
          try simp only[V]
         refine iu rfl ?_;go_wp2;go_end0;exact mf (xr Hr e4 HA HL H (fun b h1 h2=>(a8.block b (eb h1 f4)).trans (Hk3 b h1 h2)) (Hbe3.trans (a8.mono (by omega))) g0.map a3.lt (a3.set _ _ _ _ _) (by rw[a3.gA];exact H.gA) hc) Hd (by omega)
      |some i=>
       have m1:tk d=(i:Int):=by unfold tk;rw[hfi];rfl
       have h8:i<17:=qN hfi;have a3:=O (L0 hfi);have i3:=O hfi;clear hfi
       go_wp2_with(first
        |(refine mp g8 g6 rfl (.tmp 6) (.tmp 87) rfl rfl rfl ?_;intro w5 (b3:HQ _) hbe5;have C:=hbe5 t t hC d2;have e0:=(C.cell (p:=J A) R).trans e6;have w:=O C;clear hbe5 C)
        |(refine(uc d N _ (d5.below (w.mono (by omega))) (by have:=w.size;omega)).mono ?_;rintro e w6 ⟨rfl,a6⟩;have a7:=O (I w a6);have d9:=O ((a6.block b1 (TK b3)).trans b3);clear a6)
        |(refine qe (.tmp 96) rfl rfl rfl ((d5.below (a7.mono (by omega))).par i h8) ?_)
        |(refine mp d9 rfl rfl (.tmp 6) (.tmp 97) rfl rfl rfl ?_;intro w8 (j8:HQ _) hbe8;have g9:=O (hbe8 t t hC a7);clear hbe8))
       refine(kW _).mono ?_;rintro e w9 ⟨rfl,rfl⟩;have E:=a3.out;have b0:=j8.out;have a1:=g9;go_upto_region 13 with fail;have e1:w8.cell? ⟨b1,1,none⟩=some (.int .i64 ((oo (i+1)):Int)):=VV b0 1;have e2:w8.cell? ⟨b1,2,none⟩=some (.func (.func (QB i)) #[] #[]):=VV b0 2;have a9:=TK b0;have d6:w8.cell? ⟨A,1,none⟩=some (.string (bs F)):=(a1.cell (p:=⟨A,1,none⟩) R).trans i6;have d4:A<w8.heap.size:=eb R a1.size;refine gS 11 [(0,true),(1,true),(2,true),(4,true),(5,true),(6,true),(7,true),(8,true),(3,false),(9,false),(10,true)] (by kernel_rfl) (by kernel_rfl) ?_
       iterate 8
        refine gU (v:=?_) ?_ ?_;rotate_left
        .intro y j
         have k1:=(j.cell (p:=⟨b1,1,none⟩) a9).trans e1;have k2:=(j.cell (p:=⟨b1,2,none⟩) a9).trans e2;have k3:=(j.cell (p:=⟨A,1,none⟩) d4).trans d6;go_simp;with_reducible rfl
        try simp only[V]
       refine gP (fun KK a5=>?_);have d3:=E.ent;go_simp;clear d3;refine(E.call bb (T.length*22) _).mono ?_;rintro e w7 ⟨rfl,rfl⟩;refine a5 _ _ (TH _ _) ?_;clear a5 KK;(try simp only[V]);refine gP (fun KK a5=>?_);go_simp;refine(mL F (oo (i+1)) _ (Hl F (by simp)) E.d18 (i4.below a1.drew)).mono ?_;rintro e w7 ⟨M,b8⟩;have L:Below t t w7:=a1.drew.trans (b8.mono a1.size)
       cases Q:VZ F (oo (i+1))with
       |none=>
        unfold kX at M;rw[Q]at M;subst M;have b2:=g1 w7 L (by rw[nS H.el Hf c0,aj b9.out,E.dig];show(VZ F (oo (i+1))).map _=none;rw[Q];rfl);unfold iX at b2⊢;exact⟨rfl,b2⟩
       |some z=>
        unfold kX at M;rw[Q]at M;subst M;refine a5 _ _ b8 ?_;clear a5 KK;try simp only[V]
        have hr:lX r d [F]=some ⟨{r.x with l:=T++[⟨Ac y.s d z,y.zs⟩]},7,r.seen++[d]⟩:=by
         rw[nS H.el Hf c0,aj b9.out,E.dig]
         show(VZ F (oo (i+1))).map _=_
         rw[Q];rfl
        have b6:=e3.go L;obtain⟨g3,l3⟩:=b6.cell E.lt;obtain⟨u7,d8⟩:∃u,(gX y.s q.a q.n q.c)[Iv i]? =some u:=⟨_,ae (by show Iv i<22;exact E.lt)⟩;rw[d8]at g3;have Hr:=O hr;have g0:=O b6;have a8:=O L;have a3:=O E;clear hr b6 L E d8 Q b8 e1 e2 b0 d6
        iterate 1
         refine gU (v:=?_) ?_ ?_;rotate_left
         .intro y j
          skip;go_simp;with_reducible rfl
         try simp only[V]
        refine iu rfl ?_;go_wp2;go_end0;exact mf (xr Hr e4 HA HL H (fun b h1 h2=>(a8.block b (eb h1 f4)).trans (Hk3 b h1 h2)) (Hbe3.trans (a8.mono (by omega))) g0.map a3.lt (a3.set _ _ _ _ _) (by rw[a3.gA];exact H.gA) hc) Hd (by omega)
   .have h0:((ws.length:Int)+1==2)=false:=by rw[ak];omega
    have hb:iE B g 7 cc D (lX r d ws) W iX W.drew.drew:=iE.bad (LR Hf h1) Hd.drew (by omega);have P:=hb;clear hb h1 c1 a4 c7;unfold iX at P;have b5:=O P;clear P;refine gS 14 [(0,true),(1,true),(2,true),(3,true),(4,true),(5,true),(6,true),(7,true),(8,true),(9,true),(10,true),(11,true),(12,true),(13,true)] (by kernel_rfl) (by kernel_rfl) ?_
    iterate 4
     refine gU (v:=?_) ?_ ?_;rotate_left
     .intro y j
      skip;go_simp;with_reducible rfl
     try simp only[V]
    iterate 9
     refine Gq rfl (fun _ _ _ h=>h) (by rfl) ?_;try simp only[V]
    iterate 1
     refine gU (v:=?_) ?_ ?_;rotate_left
     .intro y j
      skip;go_simp;with_reducible rfl
     try simp only[V]
    refine iu rfl ?_;go_wp2_with fail;refine(lm _).mono ?_;rintro e t ⟨rfl,rfl⟩;unfold iX;go_wp2_with fail;exact⟨rfl,b5⟩
 .omega
abbrev DO:=List UInt8×Nat×Int
def FP(x:DO):List UInt8:=if x.2.2=0 then[]else iF [x.1,iz x.2.2 x.2.1]
def rS(xs:List DO):List UInt8:=(xs.map FP).flatten
def PZ(B a:Nat)(w:World)(k:Nat):Prop:=k<B\/ ∃cs T fr,w.heap[k]? =some (.cells cs T fr)/\T≠5/\k≠a
def PZ.block{B a k:Nat}{w w':World}(h:PZ B a w k)(hb:Below B w w')(b:kY a w w'):w'.heap[k]? =w.heap[k]? :=by
 obtain h|⟨cs,T,fr,h1,h2,h3⟩:=h
 .exact hb.block k h
 .exact(b k cs T fr h1 h2 h3).trans h1.symm
def FQ(w:World)(c b o:Nat)(x:DO):Prop:=∃a k,w.rangeAt b o [.string (bs x.1),.int .i64 (x.2.1:Int),.func (.func a) #[] #[]]/\(∀b k0 w,Calls prog a #[.pointer (some ⟨b,k0,none⟩)] w fun e w'=>e=.returned (.pointer (some ⟨b,k0+k,none⟩))/\w=w')/\
 (∀args w,(callFunc a args).run prog w=.ok (.enter a args) w)/\w.cell? ⟨c,k,none⟩=some (.int .i64 x.2.2)/\x.2.1<=18/\ -9223372036854775808<=x.2.2/\x.2.2<=9223372036854775807
def FQ.go{w w':World}{c b o:Nat}{x:DO}(h:FQ w c b o x)(h1:w'.heap[b]? =w.heap[b]?)(h2:w'.heap[c]? =w.heap[c]?):FQ w' c b o x:=by
 obtain⟨d,k,f,g,i,l,m⟩:=h;exact⟨d,k,fun j v e=>(World.cell?_of_block (a:=⟨b,o+j,none⟩) h1).trans (f j v e),g,i,(World.cell?_of_block (a:=⟨c,k,none⟩) h2).trans l,m⟩
def xu{xs:List DO}{k:Nat}{x:DO}(h:xs[k]? =some x):rS (xs.take (k+1))=rS (xs.take k)++FP x:=by
 unfold rS;rw[mn h,aT,cG];simp
def P4(xs:List DO)(k:Nat):(rS (xs.take k)).length<=(rS xs).length:=by
 have:rS xs=rS (xs.take k)++rS (xs.drop k):=by
  unfold rS;rw[<- cG,<- aT,cA]
 rw[this,al];omega
def L7(B a:Nat)(l:List UInt8)(w:World)(e:Ending)(w':World):Prop:=e=.returned (.tuple #[])/\Lib.IsBuilder 73 5 B a (Lib.byteCells l) w'/\Below B w w'/\kY a w w'
def pJ(xs:List DO)(b o n c H t B:Nat)(l:List UInt8)(w:World)(h:∀i x,xs[i]? =some x->FQ w H b (o+i*3) x)(hn:xs.length=n)(c3:n<=c)(c2:n<=1000)(a8:PZ B t w b)(a7:PZ B t w H)
 (hb:Lib.IsBuilder 73 5 B t (Lib.byteCells l) w)(hB:B<=w.heap.size)(hl:l.length+(rS xs).length<=1000000)(hg:GW w)(b5:14<=B):
 Calls prog 41 #[U t,U H,Z (some ⟨b,o,none⟩) n c] w (L7 B t (l++rS xs) w):=by
 have Hx:=O h;have b3:=O a8;have b2:=O a7;have Hb:=O hb;have Hl:=O hl;have Hg:=O hg;have Hn:=O hn;clear h a8 a7 hb hl hg hn;go_enter func41,ntmps41;go_wp2
 go_loopw [11] (fun iv wr=>∃k:Nat,k<=n/\iv=.int .i64 (k:Int)/\Lib.IsBuilder 73 5 B t (Lib.byteCells (l++rS (xs.take k))) wr/\Below B w wr/\kY t w wr) (fun iv _=>n-(intOf iv).toNat)
 case atStart=>exact⟨0,aA _,rfl,by simpa[rS]using Hb.out,TH _ _,kY.refl _ _⟩
 case round=>
  obtain⟨k,hk,rfl,a4,a3,a5⟩:=hrel;have M:=O a4;have f:=O a3;have r:=O a5;clear a4 a3 a5;by_cases b6:k<n
  .obtain⟨x,h⟩:∃x,xs[k]? =some x:=⟨xs[k]'(by rw[Hn];exact b6),ae _⟩
   have a0:=(Hx k x h).go (b3.block f r) (b2.block f r);obtain⟨nm,d,z⟩:=x;obtain⟨c1,kk,g,m,X,hz,hd,b7,b8⟩:=a0;have N:=O h;have s:=O g;have F:=O m;clear h g m;have c0:=oV hz
   go_wp2_with(first
    |(refine qe (.tmp 13) rfl rfl rfl s ?_)
    |(refine mp (TL wr _) rfl rfl (.tmp 7) (.tmp 14) rfl rfl rfl ?_;intro S j D;have a:=O (D wr wr (ag _) ((TH _ _).alloc (ag _) _));have K:=O j;have e2:=VV j 2;clear j D))
   refine(F H 0 _).mono ?_;rintro e w6 ⟨rfl,rfl⟩;rw[aV];clear X e2;have b9:S.cell? ⟨H,kk,none⟩=some (.int .i64 z):=(a.cell (p:=⟨H,kk,none⟩) c0).trans hz;clear hz;have R:=P4 xs (k+1);rw[xu N,al]at R;have b1:=O R;clear R;by_cases A:z=0
   .subst A
    have h1:FP (nm,d,(0:Int))=[]:=by unfold FP;rw[aq rfl]
    have W:=O h1;clear h1;go_wp2
    go_roundw
    case rel=>exact⟨k+1,by omega,by go_num,by rw[xu N,W,bG];exact iq M a,f.trans (a.mono (af hB f.size)),r.trans (kY.below a)⟩
    case measure=>simp[intOf];omega
   .have h1:FP (nm,d,z)=iF [nm,iz z d]:=by unfold FP;rw[aj A]
    have c4:(z !=0)=true:=by rw[fk];exact A
    have c5:(z==0)=false:=by rw[ak];exact A
    have W:=O h1;clear h1;have e0:=VV K 0;have e1:=VV K 1;have a6:=TK K
    change S.cell? (J (wr.heap.size))=some (.string (bs nm))at e0
    change S.cell? ⟨wr.heap.size,1,none⟩=some (.int .i64 (d:Int))at e1
    clear A;go_wp2_with fail;go_upto_region 5 with fail;refine gS 8 [(0,true),(1,true),(2,true),(3,true),(4,true),(5,true),(6,false),(7,false)] (by kernel_rfl) (by kernel_rfl) ?_
    iterate 6
     refine gU (v:=?_) ?_ ?_;rotate_left
     .intro y hy
      have k1:=(hy.cell (p:=J (wr.heap.size)) a6).trans e0;have k2:=(hy.cell (p:=⟨wr.heap.size,1,none⟩) a6).trans e1;go_simp;with_reducible rfl
     try simp only[V]
    refine gP (fun KK u=>?_);go_simp;have j:Below wr wr S.drew:=a.drew;refine(js z d S.drew b7 b8 hd ((Hg.of f b5).below j)).mono ?_;rintro e T ⟨rfl,P⟩;refine u _ _ P ?_;clear u KK;(try simp only[V]);have q:Below wr wr T:=j.trans (P.mono a.size);refine gP (fun KK u=>?_);go_simp;refine u _ _ ((TH _ _).alloc (ag _) _) ?_;clear u KK;(try simp only[V]);refine iu rfl ?_;have Q:Below wr wr (T.alloc (.cells #[.string (bs nm),.string (bs (iz z d))] 9)):=q.alloc q.size _;have E:=TL T (.cells #[.string (bs nm),.string (bs (iz z d))] 9)
    have b4:B<=(T.alloc (.cells #[.string (bs nm),.string (bs (iz z d))] 9)).heap.size:=by have:=Q.size;have:=f.size;omega
    have L:=O Q;have C:=O E;clear Q E q P j e0 e1 b9;go_wp2_with fail;refine(Cv [nm,iz z d] T 0 2 B t (l++rS (xs.take k)) _ (fun i x h=>?_) (by simp) (by simp) (by simp) (by have:=b1.out;have:=Hl.out;rw[W]at*;rw[al];omega) (iq M L) b4).mono ?_
    .match i,h with
     |0,h=>cases h;exact VV C 0
     |1,h=>cases h;exact VV C 1
    .rintro e w9 ⟨rfl,h9,a1,a2⟩
     have H9:=O h9;have a9:=O a1;have b0:=O a2;clear h9 a1 a2;go_wp2
     go_roundw
     case rel=>exact⟨k+1,by omega,by go_num,by rw[xu N,W,<- aC];exact H9,f.trans ((L.mono (af hB f.size)).trans a9),r.trans ((kY.below L).trans b0)⟩
     case measure=>simp[intOf];omega
  .obtain rfl:k=n:=by omega
   go_wp2;go_end0;have h1:=M.out;rw[aM (by rw[Hn];exact ag _)]at h1;exact⟨rfl,h1,f,r⟩
def mh(r:jL)(a:List UInt8)(ws:List (List UInt8)):Option jL:=(ou r.x.cf fun c=>sP c (a::ws)).map fun cf=>⟨{r.x with cf:=cf},8,r.seen⟩
def WZ{r:jL}{a:List UInt8}{ws:List (List UInt8)}(h:ws.length≠3):mh r a ws=none:=by
 have b:∀c,sP c (a::ws)=none:=fun c=>by
  match ws,h with
  |[],_=>rfl
  |[_],_=>rfl
  |[_,_],_=>rfl
  |[_,_,_],h=>simp at h
  |_::_::_::_::_,_=>rfl
 unfold mh ou
 cases r.x.cf.getLast? with
 |none=>rfl
 |some y=>simp[b]
def Uo{r:jL}{b:List jd}{y:jd}(d:r.x.cf=b++[y])(c a p v:List UInt8):mh r c [a,p,v]=match rD p with
 |none=>none
 |some q=>match VZ a 0 with
  |none=>none
  |some i=>(VZ v (oo q)).map fun n=>⟨{r.x with cf:=b++[⟨y.nm,y.zs++[i,(q:Int),n]⟩]},8,r.seen⟩:=by
 unfold mh;rw[d,zb];unfold sP;simp only
 cases rD p with
 |none=>rfl
 |some q=>
  cases VZ a 0 with
  |none=>rfl
  |some i=>cases hv:VZ v (oo q) <;>simp[hv]
def FT{B g cc A n c N:Nat}{D:Nat->Prop}{r:jL}{W:World}{M:List UInt8}{ws:List (List UInt8)}(h:vM B g 8 cc D r W)(hat:r.at_=8)(hw:ua W (J A) n c (M::ws) W)(hl:∀s∈M::ws,s.length<=100000)(hn:ws.length<=100000)
 (hc:cc<=100001)(hB:B<=W.heap.size)(hg:GW W)(hT:TW N W)(e5:N<=B):
 Calls prog 123 #[U g,Z (J A) n c] W (iE B g 8 cc D (mh r M ws) W):=by
 obtain⟨f,v,s,k,m,hA,hL⟩:=h;have g4:=hL.gB
 obtain ⟨h7,_⟩|⟨_,o,y,css,q,L,cap,hS⟩|⟨h7,_⟩:=hL.cf.2
 .omega
 .have e1:=hS.ep
  subst e1;have c8:W.cell? ⟨g,8,none⟩=some (.slice (J L) (o.length+1) cap):=(hA.cell 8).1;have e8:g<W.heap.size:=TK hA
  have f4:o.length+1<=cap:=by
   obtain ⟨e,_⟩|⟨g',f1,f9,e,_,_,h3,_⟩:=hS.row.2
   .cases e
   .cases e;exact h3
  have g5:o.length<=100001:=by have:=hL.cf.1;have:o.length+1<=cc:=this;omega
  have e9:n=ws.length+1:=by have:=hw.1;simp at this;omega
  subst e9;have g3:ws.length+1<=c:=hw.2.1
  have c5:A<W.heap.size:=by
   obtain⟨g',off,e,h3,_⟩:=hw.2.2 (by omega);cases e;exact h3
  have c6:∀i x,(M::ws)[i]? =some x->W.cell? ⟨A,i,none⟩=some (.string (bs x)):=fun i x hx=>by
   obtain⟨g',off,e,_,h3⟩:=hw.2.2 (by omega);cases e;have:=h3 i x hx;rwa[aV]at this
  have HA:=O hA;have HL:=O hL;have HS:=O hS;have Hl:=O hl;have Hg:=O hg;have HT:=O hT;have Hn:=O hn;have d4:=O hat;have X:=O c6;clear hA hL hS hl hg hT hw hn hat c6;go_enter func123,ntmps123;by_cases h1:ws.length=3
  .obtain⟨a,p,H,rfl⟩:∃a p H,ws=[a,p,H]:=by
    match ws,h1 with
    |[x,y,z],_=>exact⟨x,y,z,rfl⟩
   have e0:=X 2 p rfl
   cases hfi:kO.findIdx? (· ==p)with
   |none=>
    have e6:tk p= -1:=by unfold tk;rw[hfi];rfl
    have d9:=O (show mh r M [a,p,H]=none by rw[Uo HS.el,yo hfi]);have f7:=O hfi;clear hfi;go_wp2_with fail;refine(kW _).mono ?_;rintro e w3 ⟨rfl,rfl⟩
    go_wp2_with(refine(uc p N _ HT (by omega)).mono ?_;rintro e l ⟨rfl,b:HQ _⟩)
    refine(lm _).mono ?_;rintro e w8 ⟨rfl,rfl⟩;have u:iE B g 8 cc D (mh r M [a,p,H]) W iX _:=iE.bad d9 b (by omega);unfold iX at u⊢;have d7:=O u;clear u;go_wp2_with fail;exact⟨rfl,d7⟩
   |some i=>
    have e6:tk p=(i:Int):=by unfold tk;rw[hfi];rfl
    have b3:i<17:=qN hfi;have P:=O (ug hfi);clear hfi;go_wp2_with fail;refine(kW _).mono ?_;rintro e w3 ⟨rfl,rfl⟩
    go_wp2_with(refine(uc p N _ HT (by omega)).mono ?_;rintro e l ⟨rfl,b:HQ _⟩)
    refine(kW _).mono ?_;rintro e w8 ⟨rfl,rfl⟩;clear e0;have g6:=b.size;have b9:l.cell? ⟨g,8,none⟩=some (.slice (J L) (o.length+1) cap):=(b.cell (p:=⟨g,8,none⟩) e8).trans c8
    have b4:g<l.heap.size:=by omega
    clear c8;go_upto_region 3 with fail;have a5:IntKind.i64.wrap (o.length:Int)=(o.length:Int):=TM _ (by omega);refine gS 13 [(0,true),(1,true),(2,true),(3,true),(4,true),(5,true),(6,true),(7,true),(8,true),(9,true),(10,true),(11,true),(12,true)] (by kernel_rfl) (by kernel_rfl) ?_
    iterate 11
     refine gU (v:=?_) ?_ ?_;rotate_left
     .intro y T
      have k1:=(T.cell (p:=⟨g,8,none⟩) b4).trans b9;go_simp;with_reducible rfl
     try simp only[V]
    iterate 2
     refine gU (v:=?_) ?_ ?_;rotate_left
     .intro y T
      go_simp
      try rw[a5]
      try rw[aq (show(o.length:Int) <(o.length:Int)+1 by omega)]
      try with_reducible rfl
     try simp only[V]
    refine iu rfl ?_;clear b9;go_upto_region 4 with fail;have a0:=HS.go b;have f3:=a0.bbB
    have f5:A<l.heap.size:=by omega
    have c0:l.cell? ⟨A,1,none⟩=some (.string (bs a)):=(b.cell (p:=⟨A,1,none⟩) c5).trans (X 1 a rfl);have c1:l.cell? ⟨A,3,none⟩=some (.string (bs H)):=(b.cell (p:=⟨A,3,none⟩) c5).trans (X 3 H rfl);have c4:=HT.below (b.mono (by omega));have g1:0<l.heap.size:=eb (eb (show 0<14 by decide) HT.glo) (by omega);have p1:l.cell? ⟨0,i*3+1,none⟩=some (.int .i64 (oo (i+1):Int)):=c4.par i b3 1 _ rfl;obtain⟨cg,fg⟩:=a0.cell (show 1<2 by omega)
    change l.cell? ⟨L,o.length*2+1,none⟩=some (.slice q.a q.n q.c)at cg
    have b2:=yP (i+1);generalize hdg:oo (i+1)=dg at*;have b7:=O hdg;have d3:=O a0;have b8:=O (Hg.below b);clear hdg a0 c4;obtain⟨qa,qn,qc⟩:=q
    change l.cell? ⟨L,o.length*2+1,none⟩=some (.slice qa qn qc)at cg
    have c9:(i:Int) <17:=by omega
    have g7:IntKind.i64.wrap ((i:Int)+1)=(i:Int)+1:=TM _ (by omega);refine kC (S:=fun x=>x=L\/x=A\/x=0) 22 [(0,true),(1,true),(2,true),(3,true),(4,true),(5,true),(6,true),(7,true),(9,true),(10,true),(11,true),(12,true),(13,true),(14,true),(15,true),(16,true),(17,true),(8,false),(18,false),(19,true),(20,false),(21,false)] (by kernel_rfl) (by kernel_rfl) ?_
    iterate 17
     refine gU (v:=?_) ?_ ?_;rotate_left
     .intro y T
      have k1:=(T.cell (p:=⟨L,o.length*2+1,none⟩) (VR rfl)).trans cg;have k2:=(T.cell (p:=⟨A,1,none⟩) (VS (VR rfl))).trans c0;have k3:=(T.cell (p:=⟨A,3,none⟩) (VS (VR rfl))).trans c1;have k4:=(T.cell (p:=⟨0,i*3+1,none⟩) (VS (VS rfl))).trans p1;go_simp;with_reducible rfl
     try simp only[V]
    have c2:∀w w':World,l.heap.size<=w.heap.size->Below w w w'->gN (fun x=>x=L\/x=A\/x=0) w w':=fun w w' h1 h2 x hx=>h2.block x (by obtain rfl|rfl|rfl:=hx<;>omega)
    have a6:=O c2;clear c2;refine gP (fun KK R=>?_);go_simp;refine(mL a 0 _ (Hl a (by simp)) (by omega) (b8.below (TH _ _).drew.drew)).mono ?_;rintro e w9 ⟨C,a9⟩;have t:Below l l w9:=(TH l l).drew.drew.trans a9
    cases hva:VZ a 0 with
    |none=>
     unfold kX at C;rw[hva]at C;subst C;have u:iE B g 8 cc D (mh r M [a,p,H]) W iX w9:=iE.bad (by rw[Uo HS.el,P];simp only[hva]) (I b t) (by omega);unfold iX at u⊢;exact⟨rfl,u⟩
    |some z0=>
     unfold kX at C;rw[hva]at C;subst C;refine R _ _ (a6 _ _ (ag _) a9) ?_;clear R KK;(try simp only[V]);refine gP (fun KK R=>?_);go_simp;refine(mL H dg w9 (Hl H (by simp)) b2 (b8.below t)).mono ?_;rintro e F ⟨C,Q⟩;have d:Below l l F:=I t Q
     cases hvv:VZ H dg with
     |none=>
      unfold kX at C;rw[hvv]at C;subst C;have u:iE B g 8 cc D (mh r M [a,p,H]) W iX F:=iE.bad (by rw[Uo HS.el,P];simp only[hva,b7.out,hvv];rfl) (I b d) (by omega);unfold iX at u⊢;exact⟨rfl,u⟩
     |some z1=>
      unfold kX at C;rw[hvv]at C;subst C;refine R _ _ (a6 _ _ t.size Q) ?_;clear R KK;try simp only[V]
      have hr:mh r M [a,p,H]=some ⟨{r.x with cf:=o++[⟨y.nm,y.zs++[z0,((i+1:Nat):Int),z1]⟩]},8,r.seen⟩:=by rw[Uo HS.el,P];simp only[hva,b7.out,hvv];rfl
      have Hr:=O hr;clear hr hva hvv
      iterate 1
       refine gU (v:=?_) ?_ ?_;rotate_left
       .intro y T
        skip;go_simp;with_reducible rfl
       try simp only[V]
      refine gP (fun K hK=>?_);go_simp;refine hK _ _ (a6 _ _ d.size ((TH _ _).alloc (ag _) _)) ?_;clear hK K;(try simp only[V]);have j:Below l l (F.alloc (.cells [Value.int .i64 z0,.int .i64 ((i:Int)+1),z1].toArray 64)):=d.trans ((TH F F).alloc (ag _) _|>.mono d.size);have a8:=HA.go (I b j);have c3:=HL.go (I b j);have E:=d3.go j;have f6:=TK a8;have b1:=E.bbB
      have e4:B<=(F.alloc (.cells [Value.int .i64 z0,.int .i64 ((i:Int)+1),z1].toArray 64)).heap.size:=by have:=(I b j).size;omega
      have f0:=E.qn
      change qn<=cc at f0
      refine gP (fun K hK=>?_);refine nR underlying65 Tryz.infoChange3 rfl (by omega) (by omega) _ _ rfl B _ (.slice qa qn qc) qn F _ [z0,.int .i64 ((i:Int)+1),z1] rfl E.p8.row (TL F _) rfl rfl (by simp[Value.oneCell']) (by omega) e4 ?_;intro g2 f2 c7 a3 a1 e7;have a2:(Value.slice qa qn qc).ownBlock≠some L:=E.ne;have b5:(Value.slice qa qn qc).ownBlock≠some A:=HS.p8.word (by omega) (X 0 M rfl)
      have b6:(Value.slice qa qn qc).ownBlock≠some 0:=fun e=>by
       have h9:=(gT E.p8.row e).1;have e2:=HT.glo
       have e3:0<14:=by decide
       exact absurd (eb (eb e3 e2) (af e5 h9)) (Nat.lt_irrefl _)
      refine hK _ _ (fun x hx=>a1.kept x (by have:=j.size;obtain rfl|rfl|rfl:=hx<;>omega) (by obtain rfl|rfl|rfl:=hx;exact a2;exact b5;exact b6)) ?_;clear hK K
      have a4:c7.cell? ⟨L,o.length*2+1,none⟩=some (.slice qa qn qc)/\c7.frozen? ⟨L,o.length*2+1,none⟩=false:=by
       have hk:=a1.kept L b1.2 a2;obtain⟨q1,q2⟩:=E.cell (show 1<2 by omega);exact⟨by simp only[World.cell?,hk];exact q1,by simp only[World.frozen?,hk];exact q2⟩
      obtain⟨f8,g0⟩:=a4;have d0:=O a8;have d1:=O c3;have d2:=O E;have d6:=O (I b j);have b0:=O a3;have d8:=O a1;clear a8 c3 E j a3 a1 cg fg c0 c1 p1 d Q t a9;(try simp only[V]);refine iu rfl ?_;go_wp2;go_end0;exact DJ Hr d4 d6 d0 d1 d2 b0 d8 e7 hB hc
  .have h0:((ws.length:Int)+1==4)=false:=by rw[ak];omega
   have hb:iE B g 8 cc D (mh r M ws) W iX W:=iE.bad (WZ h1) (TH _ _) (by omega);have a7:=hb;clear hb h1 c8;unfold iX at a7;have d5:=O a7;clear a7;go_wp2_with fail;refine(lm _).mono ?_;rintro e w3 ⟨rfl,rfl⟩;unfold iX;go_wp2_with fail;exact⟨rfl,d5⟩
 .omega
def pm{lo hi:Int}{l:List Int}(h:(!jr lo hi l)=true):∀x∈l,lo<=x/\x<=hi:=by
 intro x a;unfold jr at h;rw[di,du]at h;have:=h x a;simp at this;omega
def L8{s:gW}{zs:List Int}{n:Nat}(h:oA s zs n=true):uU s=true/\uV s=true/\uW s=true:=by
 have h1:uX s zs n=true:=by unfold oA at h;simp at h;exact h.1
 exact⟨an.1 h1 1 (by simp),an.1 h1 2 (by simp),an.1 h1 3 (by simp)⟩
def uG{s:gW}{zs:List Int}{n:Nat}(h:oA s zs n=true):(∀p:Int,-1000000000<=s.get p/\s.get p<=1000000000)/\(0<=s.i7/\s.i7<=1000000000)/\(-3<=s.order/\s.order<=3):=by
 obtain⟨h2,h3,a⟩:=L8 h;unfold uU at h2;unfold uV at h3;unfold uW at a;simp only[am]at h2 h3 a;have a1:=pm h2.1.1;have a2:=pm h2.1.2;have a3:=pm h2.2;have b1:=pm h3.1;have b2:=pm h3.2;have c1:=pm a.1;have c2:=pm a.2;simp only[ct,bi,false_implies,implies_true,and_true]at a1 a2 a3 b1 b2 c1 c2;refine⟨fun p=>?_,by omega,by omega⟩;unfold gW.get
 repeat' split
 all_goals omega
def wH{s:gW}{zs:List Int}{n:Nat}(h:oA s zs n=true){k:Nat}(a:k<n):(0<=zs.getD (k*3) 0/\zs.getD (k*3) 0<=40000000)/\(0<=zs.getD (k*3+1) 0/\zs.getD (k*3+1) 0<=1000)/\(0<=zs.getD (k*3+2) 0/\zs.getD (k*3+2) 0<=1000):=by
 have h1:mP zs k=true:=by
  unfold oA at h;rw[am]at h;exact an.1 h.2 k (aJ.2 a)
 unfold mP oH at h1;simp only[am]at h1;have a1:=pm h1.1.1 _ (aK.2 rfl);have a2:=pm h1.1.2 _ (aK.2 rfl);have a3:=pm h1.2 _ (aK.2 rfl);omega
def nA(f:Nat->List UInt8)(k:Nat):((List.range (k+1)).map f).flatten=((List.range k).map f).flatten++f k:=by
 rw[bV,aT,cG];simp
def qO(g:ByteArray):bs (VX g)=g:=by
 obtain⟨d⟩:=g;rfl
def Bq(s:gW)(a n:Nat):List DO:=(List.range n).map fun i=>(km (a+i),oo (a+i),s.get ((a+i:Nat):Int))
def rU(s:gW)(a n:Nat):rS (Bq s a n)=ub s a n:=by
 unfold rS Bq ub;rw[dD];rfl
def xv{N:Nat}{w:World}{g:Nat}{s:gW}{a:Option Addr}{n c:Nat}(v:TW N w)(u:Y w g s a n c){zs:List Int}{m:Nat}(z:oA s zs m=true)(d k:Nat)(h1:1<=d)(h2:d+k<=18):∀i x,(Bq s d k)[i]? =some x->FQ w g 0 ((d-1)*3+i*3) x:=by
 intro i x e;unfold Bq at e;rw[aR]at e
 cases hi:(List.range k)[i]? with
 |none=>rw[hi]at e;cases e
 |some j=>
  obtain⟨h,f⟩:=TG.1 hi;rw[dt]at h;rw[List.getElem_range]at f;subst f;rw[hi]at e;cases e;have A:=(uG z).1 ((d+i:Nat):Int);have l:=v.par (d-1+i) (by omega);have y:=u.getP (p:=((d+i:Nat):Int)) (by omega) (by omega);refine⟨QB (d-1+i),Iv (d-1+i),?_,fun b k0 w=>JN _ (by omega) b k0 w,Cw _ (by omega),?_,yP _,by show _<=s.get _;omega,by show s.get _<=_;omega⟩
  .have o:(d-1)*3+i*3=(d-1+i)*3:=by rw[dB]
   have q:km (d+i)=kO.getD (d-1+i) []:=by unfold km;rw[show d+i-1=d-1+i by omega]
   have r:d-1+i+1=d+i:=by omega
   rw[o];rw[r]at l
   show w.rangeAt _ _ [.string (bs (km (d+i))),.int .i64 (oo (d+i):Int),_]
   rw[q];exact l
  .rw[Iw _ (by omega)]
   have t:((d-1+i:Nat):Int)+1=((d+i:Nat):Int):=by omega
   rw[t];exact y
structure FR (B bw bS:Nat) (s:gW) (a:Option Addr) (n c:Nat) (l:List UInt8) (w W:World):Prop where
 s:Y W bS s a n c
 b:Lib.IsBuilder 73 5 B bw (Lib.byteCells l) W
 be:Below B w W
 kt:kY bw w W
def FR.next{B e b:Nat}{s:gW}{a:Option Addr}{n c:Nat}{l l':List UInt8}{w W f g:World}(h:FR B e b s a n c l w W)(d:Below W W f)(h2:L7 B e l' f (.returned (.tuple #[])) g)(i:b≠e)(k:B<=w.heap.size):FR B e b s a n c l' w g:=by
 obtain⟨_,h3,j,h5⟩:=h2;have m:=h.be.size;exact⟨h5 b _ _ _ ((d.block b (TK h.s)).trans h.s) (by decide) i,h3,h.be.trans ((d.mono (af k m)).trans j),h.kt.trans ((kY.below d).trans h5)⟩
def FR.go{B g e:Nat}{s:gW}{a:Option Addr}{n c:Nat}{l:List UInt8}{w W f:World}(h:FR B g e s a n c l w W)(d:Below W W f)(i:B<=w.heap.size):FR B g e s a n c l w f:=
 ⟨(d.block e (TK h.s)).trans h.s,iq h.b d,h.be.trans (d.mono (af i h.be.size)),h.kt.trans (kY.below d)⟩
def kL(ws:List (List UInt8))(g c B b:Nat)(l:List UInt8)(w:World)(h:w.heap[g]? =some (.cells (ji ws).toArray 9 (0,0)))(d:ws.length<=c)(j:ws.length<=1000000)(f:l.length+(iF ws).length<=1000000)
 (hb:Lib.IsBuilder 73 5 B b (Lib.byteCells l) w)(a:B<=w.heap.size):
 Calls prog 15 #[U b,Z (J g) ws.length c] w (L7 B b (l++iF ws) w):=
 (Cv ws g 0 c B b l w (fun i x k=>by
   rw[aV,VV h i];unfold ji
   rw[bo,aR,k];rfl) (TK h) d j f hb a).mono fun e w' h=>h
def jz{B b:Nat}{l:List UInt8}{w w':World}{e:Ending}(h:L7 B b l w e w'):e=.returned (.tuple #[]):=h.1
def FR.line{B d j:Nat}{s:gW}{a:Option Addr}{n c:Nat}{l:List UInt8}{w W i:World}(h:FR B d j s a n c l w W)(f:Below W W i)(p:j≠d)(q:B<=w.heap.size)(ws:List (List UInt8)){g m:Nat}(hw:i.heap[g]? =some (.cells (ji ws).toArray 9 (0,0)))(o:(l++iF ws).length<=1000000)(r:ws.length=m:=by rfl)(h9:m<=9:=by decide):
 Calls prog 15 #[U d,Z (J g) m m] i fun e k=>e=.returned (.tuple #[])/\FR B d j s a n c (l++iF ws) w k:=by
 subst r;have h1:=f.size;have h2:=h.be.size;rw[al]at o;refine(kL ws g ws.length B d l i hw (ag _) (by omega) o (iq h.b f) (by omega)).mono ?_;rintro e k h3;obtain rfl:=jz h3;exact⟨rfl,h.next f h3 p q⟩
def FR.values{B g f:Nat}{s:gW}{a:Option Addr}{n c:Nat}{l:List UInt8}{w W j:World}(h:FR B g f s a n c l w W)(p:Below W W j)(q:f≠g)(r:B<=w.heap.size)(xs:List DO)(b o m d:Nat)(D:∀i x,xs[i]? =some x->FQ j f b (o+i*3) x)(C:xs.length=m)(y:m<=d)(v:PZ B g j b)(u:(l++rS xs).length<=1000000)(z:GW w)(k:14<=B)(A:m<=1000:=by decide):
 Calls prog 41 #[U g,U f,Z (some ⟨b,o,none⟩) m d] j fun e t=>e=.returned (.tuple #[])/\FR B g f s a n c (l++rS xs) w t:=by
 have h1:=h.go p r;rw[al]at u;refine(pJ xs b o m d f g B l j D C y A v (VS ⟨_,_,_,h1.s,by decide,q⟩) h1.b (af r h1.be.size) u (z.of h1.be k) k).mono ?_;rintro e t h3;obtain rfl:=jz h3;exact⟨rfl,h.next p h3 q r⟩
def Yt(p t:List UInt8):Prop:=∃q,t=p++q
def Yi{l p t:List UInt8}{m:Nat}(h:Yt p t)(a:(l++t).length<=m):(l++p).length<=m:=by
 obtain⟨q,rfl⟩:=h;simp only[al]at*;omega
def Yf{α:Type}(f:α->List UInt8)(l:List α){k:Nat}{y:α}(h:l[k]? =some y):Yt (((l.take k).map f).flatten++f y) ((l.map f).flatten):=by
 refine⟨((l.drop (k+1)).map f).flatten,?_⟩
 have a:l=l.take k++y::l.drop (k+1):=by rw[<- yO h,cA]
 conv=>lhs;rw[a]
 simp
def Yv(f:Nat->List UInt8){k n:Nat}(h:k<n):Yt (((List.range k).map f).flatten++f k) (((List.range n).map f).flatten):=by
 have:=Yf f (List.range n) (k:=k) (y:=k) (by simp[h])
 rwa[List.take_range,cD (cE h)]at this
def Yo{N:Nat}{w:World}(h:TW N w)(nm:List UInt8)(b:ByteArray)(hb:b=bs nm)(v:Value)(e:yE nm=some v):∃c,w.cell? (J 2)=some (.map (some c))/\(Instr.lookup 128 (.map (some c)) (.string b) false).run prog w=.ok v w:=by
 subst hb;obtain⟨c,f,h1,_,d,a⟩:=h.oth;have:=mM underlying128 underlying9 (Tryz.zeroPar w) d nm false;rw[a nm,e]at this;exact⟨c,h1,this⟩
def ib(x:gM):Nat->List UInt8
 |0=>iF [nq,kP.getD (x.s.kind-1).toNat []]
 |1=>ub x.s 1 10
 |2=>if x.s.i7=0 then[]else iF [lB,iz x.s.i7 6]
 |3=>ub x.s 11 5
 |4=>if x.s.order=0 then[]else iF [kj,iz x.s.order 0]
 |5=>ub x.s 16 2
 |6=>if VX x.s.gA=[]then[]else iF [lP,VX x.s.gA]
 |_=>((List.range (x.zs.length/3)).map (V3 x.zs)).flatten
def Yh(l:List UInt8)(x:gM):Nat->List UInt8
 |0=>l
 |k+1=>Yh l x k++ib x k
def Yl(l:List UInt8)(x:gM):Yh l x 8=l++oq x:=by
 rw[show oq x=ib x 0++ib x 1++ib x 2++ib x 3++ib x 4++ib x 5++ib x 6++ib x 7 from rfl];simp only[Yh,aC]
def Yp(l:List UInt8)(x:gM)(k:Nat):∀n,(Yh l x k).length<=(Yh l x (k+n)).length
 |0=>ag _
 |n+1=>af (Yp l x k n) (by rw[<- cN,Yh,al];omega)
def DP(x:gM)(a:Option Addr)(n c r B N:Nat)(l:List UInt8)(w:World)(ho:tr x=true)(hz:IR B w 3 a n c x.zs)(hn:n<=1000000)
 (hb:Lib.IsBuilder 73 5 B r (Lib.byteCells l) w)(P:B<=w.heap.size)(hl:l.length+(oq x).length<=1000000)(hg:GW w)(hT:TW N w)(g:N<=B):
 Calls prog 17 #[U r,.agg (⟨x.s,a,n,c⟩:jt)] w (L7 B r (l++oq x) w):=by
 have f2:r<w.heap.size:=by
  obtain ⟨_,v,h,_⟩|⟨_,v,h,_⟩:=hb
  .exact TK h
  .exact TK h
 have m:=(TH w w).alloc (ag _) (.cells (⟨x.s,a,n,c⟩:jt) 58);have R:FR B r w x.s a n c (Yh l x 0) w (w.alloc (.cells (⟨x.s,a,n,c⟩:jt) 58)):=⟨Y.new _ _ _ _ _,iq hb m,m.mono P,kY.below m⟩;have b8:oA x.s x.zs (x.zs.length/3)=true:=ho;obtain⟨e4,e5⟩:=vT b8;obtain⟨C,d0,c2⟩:∃C:Nat,x.s.kind=(C:Int)+1/\C<4:=⟨(x.s.kind-1).toNat,by omega,by omega⟩
 have d2:w.heap.size≠r:=by omega
 have d1:∀k,k<=8->(Yh l x k).length<=1000000:=fun k hk=>by
  have h1:=Yp l x k (8-k);rw[show k+(8-k)=8 by omega,Yl,al]at h1;omega
 have a1:=O R;have T:=O b8;have Hz:=O hz;have D:=O d1;have Hg:=O hg;have q:=O hT;have c4:=O d0;have E:=O d2;clear R b8 ho hz hl d1 hg hT m hb d0 d2 e4 e5;go_enter func17,ntmps17;go_upto_region 1 with fail;refine gI (fun wx=>FR B r w x.s a n c (Yh l x 0) w wx) a1 ?_;clear a1;rintro w1 R;obtain⟨ka,kn,kc,hk,a6⟩:=(q.below (R.be.mono g)).kin;have a5:kn=4:=a6.1.symm;subst a5;obtain⟨kg,ko,rfl,f4,c9⟩:=a6.2.2 (by omega)
 have h0:ib x 0=iF [nq,kP.getD C []]:=by
  show iF [nq,kP.getD (x.s.kind-1).toNat []]=_
  rw[c4,show(C:Int)+1-1=(C:Int)by omega,aI]
 have a7:w1.cell? ⟨kg,ko+C,none⟩=some (.string (bs (kP.getD C []))):=c9 C _ (by
  have:C<kP.length:=c2
  rw[ah,ae this];rfl)
 generalize kP.getD C []=kw at*
 have k0:w1.cell? (J (w.heap.size))=some (.int .i64 ((C:Int)+1)):=by rw[<- c4];exact R.s.cells.1
 have e8:4<=kc:=a6.2.1
 have e9:(C:Int) <4:=by omega
 have f0:(0:Int)<=(C:Int):=by omega
 have b5:=D 1 (by decide);rw[Yh,h0]at b5;have H0:=O h0;have a1:=O R;have c5:=O b5;clear c9 a6 R h0 b5;go_wp2_with fail;refine(a1.line ((TH _ _).alloc (ag _) _) E P [nq,kw] (TL _ _) c5).mono ?_;rintro _ w2 ⟨rfl,d⟩;rw[<- H0]at d;have F:Hid (FR B r w x.s a n c (Yh l x 1) w w2):=O d;clear d a7 k0 hk a1 H0 c5;go_wp2_with fail;refine(F.values (TH _ _) E P (Bq x.s 1 10) 0 0 10 17 (xv (q.below (F.be.mono g)) F.s T 1 10 (by omega) (by omega)) (by simp[Bq]) (by omega) (VR (eb (eb (show 0<14 by decide) q.glo) g)) (by rw[rU];exact D 2 (by decide)) Hg (af q.glo g)).mono ?_;rintro _ w3 ⟨rfl,d⟩;rw[rU]at d;have u:Hid (FR B r w x.s a n c (Yh l x 2) w w3):=O d;clear d F;obtain⟨ob,a0,b6⟩:=Yo (q.below (u.be.mono g)) lB {data:=#[104,111,108,101]} rfl (.agg #[.string (bs lB),.int .i64 6,.func (.func 295) #[] #[]]) rfl;go_wp2_with fail;have m:Below w3 w3 (w3.alloc (.cells #[.string (bs lB),.int .i64 6,.func (.func 295) #[] #[]] 83)):=(TH _ _).alloc (ag _) _;have A:=u.go m P;have f:=TL w3 (.cells #[.string (bs lB),.int .i64 6,.func (.func 295) #[] #[]] 83);have hr:=uG T
 have e:rS [(lB,6,x.s.i7)]=ib x 2:=by simp[rS,FP,ib]
 refine(u.values m E P [(lB,6,x.s.i7)] w3 0 1 1 (fun i y S=>?_) rfl (by omega) (VS ⟨_,_,_,f,by decide,by have:=u.be.size;omega⟩) (by rw[e];exact D 3 (by decide)) Hg (af q.glo g)).mono ?_
 .match i,S with
  |0,S=>
   cases S;have pl:=Ax;refine⟨_,15,fun j v t=>?_,pl.call,pl.ent,VV A.s 15,by show 6<=18;omega,?_,?_⟩
   .match j,t with
    |0,t=>cases t;exact VV f 0
    |1,t=>cases t;exact VV f 1
    |2,t=>cases t;exact VV f 2
   .show _<=x.s.i7;omega
   .show x.s.i7<=_;omega
 rintro _ w4 ⟨rfl,d⟩;rw[e]at d;have H:Hid (FR B r w x.s a n c (Yh l x 3) w w4):=O d;clear d u A f m hr e b6 a0;go_wp2_with fail;refine(H.values (TH _ _) E P (Bq x.s 11 5) 0 30 5 7 (xv (q.below (H.be.mono g)) H.s T 11 5 (by omega) (by omega)) (by simp[Bq]) (by omega) (VR (eb (eb (show 0<14 by decide) q.glo) g)) (by rw[rU];exact D 4 (by decide)) Hg (af q.glo g)).mono ?_;rintro _ w5 ⟨rfl,d⟩;rw[rU]at d;have z:Hid (FR B r w x.s a n c (Yh l x 4) w w5):=O d;clear d H;obtain⟨ob,a0,b6⟩:=Yo (q.below (z.be.mono g)) kj {data:=#[111,114,100,101,114]} rfl (.agg #[.string (bs kj),oZ,.func (.func 296) #[] #[]]) rfl;go_wp2_with fail;have m:Below w5 w5 (w5.alloc (.cells #[.string (bs kj),oZ,.func (.func 296) #[] #[]] 83)):=(TH _ _).alloc (ag _) _;have A:=z.go m P;have f:=TL w5 (.cells #[.string (bs kj),oZ,.func (.func 296) #[] #[]] 83);have hr:=uG T
 have e:rS [(kj,0,x.s.order)]=ib x 4:=by simp[rS,FP,ib]
 refine(z.values m E P [(kj,0,x.s.order)] w5 0 1 1 (fun i y S=>?_) rfl (by omega) (VS ⟨_,_,_,f,by decide,by have:=z.be.size;omega⟩) (by rw[e];exact D 5 (by decide)) Hg (af q.glo g)).mono ?_
 .match i,S with
  |0,S=>
   cases S;have pl:=yq;refine⟨_,11,fun j v t=>?_,pl.call,pl.ent,VV A.s 11,by show 0<=18;omega,?_,?_⟩
   .match j,t with
    |0,t=>cases t;exact VV f 0
    |1,t=>cases t;exact VV f 1
    |2,t=>cases t;exact VV f 2
   .show _<=x.s.order;omega
   .show x.s.order<=_;omega
 rintro _ w6 ⟨rfl,d⟩;rw[e]at d;have K:Hid (FR B r w x.s a n c (Yh l x 5) w w6):=O d;clear d z A f m hr e b6 a0;go_wp2_with fail;refine(K.values (TH _ _) E P (Bq x.s 16 2) 0 45 2 2 (xv (q.below (K.be.mono g)) K.s T 16 2 (by omega) (by omega)) (by simp[Bq]) (by omega) (VR (eb (eb (show 0<14 by decide) q.glo) g)) (by rw[rU];exact D 6 (by decide)) Hg (af q.glo g)).mono ?_;rintro _ w7 ⟨rfl,d⟩;rw[rU]at d;have L:Hid (FR B r w x.s a n c (Yh l x 6) w w7):=O d;clear d K;have d5:w7.cell? ⟨w.heap.size,13,none⟩=some (.string x.s.gA):=VV L.s 13
 have M:ib x 6=if VX x.s.gA=[]then[]else iF [lP,VX x.s.gA]:=rfl
 rw[<- qO x.s.gA]at d5;have Q:=D 7 (by decide);rw[Yh,M]at Q;have H6:=O M;have c6:=O Q;clear M Q;generalize VX x.s.gA=gl at*
 go_upto_if 36 with fail
 go_cut [] (fun wx=>FR B r w x.s a n c (Yh l x 7) w wx)
 case first=>
  by_cases hgl:gl=[]
  .subst hgl
   have M:=H6.out;rw[aq rfl]at M
   have d4:Yh l x 7=Yh l x 6:=by rw[Yh,M,bG]
   have d9:=O d4;clear M d4;go_wp2;go_meet;rw[d9];exact L
  .have f3:(gl==[])=false:=by rw[ak];exact hgl
   have e3:gl.isEmpty=false:=by rw[List.isEmpty_eq_false_iff];exact hgl
   have M:=H6.out;have Q:=c6.out;rw[aj hgl]at M Q;have d6:=O M;have b9:=O Q;clear M Q;simp only[e3,fT];go_wp2_with fail;refine(L.line ((TH _ _).alloc (ag _) _) E P [lP,gl] (TL _ _) b9).mono ?_;rintro _ w8 ⟨rfl,d⟩;rw[<- d6]at d;have c0:=O d;clear d;go_wp2;go_meet;exact c0
 case rest=>
  have a4:=O hcut;clear hcut d5 H6 c6 L
  have e6:x.zs.length/3=n:=by have:=Hz.1;omega
  have e7:wc.cell? ⟨w.heap.size,21,none⟩=some (.slice a n c):=VV a4.s 21;have f5:n<=c:=Hz.2.1
  have h7:ib x 7=((List.range n).map (V3 x.zs)).flatten:=by rw[<- e6];rfl
  have H7:=O h7;clear h7;go_wp2
  go_loopw [45] (fun iv wr=>∃k:Nat,k<=n/\iv=.int .i64 (k:Int)/\FR B r w x.s a n c (Yh l x 7++((List.range k).map (V3 x.zs)).flatten) w wr) (fun iv _=>n-(intOf iv).toNat)
  case atStart=>exact⟨0,aA _,rfl,by simpa using a4.out⟩
  case round=>
   obtain⟨k,hk,rfl,d3⟩:=hrel;have a3:=O d3;clear d3 e7;by_cases a5:k<n
   .obtain⟨b,off,rfl,f1,z0,z1,z2⟩:=(Hz.below a3.be (ag _)).at3 a5
    have f6:=wH T (k:=k) (by omega);have b4:V3 x.zs k=iF [lG,iz (x.zs.getD (k*3) 0) 7,iz (x.zs.getD (k*3+1) 0) 0,iz (x.zs.getD (k*3+2) 0) 0]:=rfl;have W:=D 8 (by decide);rw[Yh,H7]at W;have W:=Yi (Yv (V3 x.zs) a5) W;rw[b4,<- aC]at W;have d8:=O b4;have d7:=O W;clear b4 W;generalize x.zs.getD (k*3) 0=q0 at*;generalize x.zs.getD (k*3+1) 0=q1 at*;generalize x.zs.getD (k*3+2) 0=q2 at*;go_wp2_with fail;have a2:=TL wr (.cells #[q0,q1,q2] 60);have m:Below wr wr (wr.alloc (.cells #[q0,q1,q2] 60)):=(TH _ _).alloc (ag _) _;have e0:=VV a2 0;have e1:=VV a2 1;have e2:=VV a2 2;have b7:=TK a2;have a8:=O m;clear a2 m z0 z1 z2;go_upto_region 12 with fail;have c8:GW wr:=Hg.of a3.be (af q.glo g);have a9:=O c8;clear c8;refine gS 11 [(0,true),(1,true),(2,true),(4,true),(5,true),(7,true),(8,true),(3,false),(6,false),(9,false),(10,false)] (by kernel_rfl) (by kernel_rfl) ?_
    iterate 7
     refine gU (v:=?_) ?_ ?_;rotate_left
     .intro y S
      have k1:=(S.cell (p:=J (wr.heap.size)) b7).trans e0;have k2:=(S.cell (p:=⟨wr.heap.size,1,none⟩) b7).trans e1;have k3:=(S.cell (p:=⟨wr.heap.size,2,none⟩) b7).trans e2;go_simp;with_reducible rfl
     try simp only[V]
    clear e0 e1 e2;refine gP (fun KK o=>?_);go_simp;refine(js q0 7 _ (by omega) (by omega) (by omega) (a9.below a8.drew)).mono ?_;rintro ee wa ⟨rfl,b1⟩;refine o _ _ b1 ?_;clear o KK;have b0:=a8.drew.trans (b1.mono a8.drew.size);(try simp only[V]);refine gP (fun KK o=>?_);go_simp;refine(js q1 0 wa (by omega) (by omega) (by omega) (a9.below b0)).mono ?_;rintro ee wb ⟨rfl,b2⟩;refine o _ _ b2 ?_;clear o KK;have X:=I b0 b2;(try simp only[V]);refine gP (fun KK o=>?_);go_simp;refine(js q2 0 wb (by omega) (by omega) (by omega) (a9.below X)).mono ?_;rintro ee wd ⟨rfl,b3⟩;refine o _ _ b3 ?_;clear o KK;have c7:=I X b3;(try simp only[V]);refine gP (fun KK o=>?_);go_simp;refine o _ _ ((TH _ _).alloc (ag _) _) ?_;clear o KK;(try simp only[V]);refine iu rfl ?_;have c3:=O c7;clear b0 X c7 b1 b2 b3;go_wp2_with fail;refine(a3.line (c3.alloc c3.size _) E P [lG,iz q0 7,iz q1 0,iz q2 0] (TL _ _) d7).mono ?_;rintro _ w9 ⟨rfl,d⟩;rw[<- d8,aC,<- nA]at d;have c1:=O d;clear d;go_wp2
    go_roundw
    case rel=>exact⟨k+1,by omega,by go_num,c1⟩
    case measure=>simp[intOf];omega
   .obtain rfl:k=n:=by omega
    go_wp2;go_end0;have hs:=a3.out;rw[<- H7]at hs;refine⟨rfl,?_,hs.be,hs.kt⟩;rw[<- Yl];exact hs.b
structure Tc (x:gR):Prop where
 i9:0<=x.i9/\x.i9<=1000000000
 pb:0<=x.pb/\x.pb<=1000000000
 stop:0<=x.stop/\x.stop<=16
 p9:0<=x.p9/\x.p9<=16
 fs:∀i,i<x.fs.length/2->(-1000000000<=x.fs.getD (i*2) 0/\x.fs.getD (i*2) 0<=1000000000)/\(-1000000000<=x.fs.getD (i*2+1) 0/\x.fs.getD (i*2+1) 0<=1000000000)
 ws:∀i,i<x.ws.length/2->(0<=x.ws.getD (i*2) 0/\x.ws.getD (i*2) 0<=2500000)/\(1<=x.ws.getD (i*2+1) 0/\x.ws.getD (i*2+1) 0<=100)
 l:∀y∈x.l,tr y=true
 cf:∀c∈x.cf,∀i,i<c.zs.length/3->(0<=c.zs.getD (i*3) 0/\c.zs.getD (i*3) 0<=16)/\(1<=c.zs.getD (i*3+1) 0/\c.zs.getD (i*3+1) 0<=17)/\(-1000000000<=c.zs.getD (i*3+2) 0/\c.zs.getD (i*3+2) 0<=1000000000)
def rV{n lo hi:Int}(h:bt n lo hi=true):lo<=n/\n<=hi:=by
 unfold bt at h;simp at h;exact h
def P6{s:gW}{p v:Int}(h1:1<=p)(h2:p<=17):(s.put p v).get p=v:=by
 obtain rfl|rfl|rfl|rfl|rfl|rfl|rfl|rfl|rfl|rfl|rfl|rfl|rfl|rfl|rfl|rfl|rfl:=oL h1 h2<;>rfl
def Of{l:List gM}{i p v:Int}(h:nT l i p v=true):(0<=i/\i<=(l.length:Int)-1)/\(1<=p/\p<=17)/\(-1000000000<=v/\v<=1000000000):=by
 unfold nT at h;rw[am]at h;obtain⟨h1,h2⟩:=h
 cases hx:l[i.toNat]? with
 |none=>rw[hx]at h2;cases h2
 |some x=>
  rw[hx]at h2;simp only[aD]at h2
  have a:nj x.s x.zs (x.zs.length/3) p=0:=by
   unfold mw at h2;split at h2
   .assumption
   .exact absurd h2 (by assumption)
  have hb:tt x.s p=true:=by
   unfold nj at a;split at a
   .split at a
    .assumption
    .cases a
   .cases a
  have b:=oM hb
  have d:oA (x.s.put p v) x.zs (x.zs.length/3)=true:=by
   unfold mw at h2;rw[aq a]at h2;split at h2
   .assumption
   .cases h2
  have c:=(uG d).1 p;rw[P6 b.1 b.2]at c;unfold qx at h1;simp only[am]at h1;exact⟨rV h1.1.1,b,c⟩
def JR{l:List gM}{zs:List Int}:∀{k:Nat}{l':List gM},tu l zs k=some l'->l'.length=l.length
 |0,l',h=>by unfold tu at h;cases h;rfl
 |k+1,l',h=>by
  unfold tu at h
  cases hc:tu l zs k with
  |none=>rw[hc]at h;cases h
  |some a=>
   rw[hc]at h;simp only[aO]at h;split at h
   .cases h
    rw[xP,JR hc]
   .cases h
def JS{l:List gM}{zs:List Int}:∀{k:Nat}{l':List gM},tu l zs k=some l'-> ∀i,i<k->(0<=zs.getD (i*3) 0/\zs.getD (i*3) 0<=(l.length:Int)-1)/\(1<=zs.getD (i*3+1) 0/\zs.getD (i*3+1) 0<=17)/\(-1000000000<=zs.getD (i*3+2) 0/\zs.getD (i*3+2) 0<=1000000000)
 |0,l',h,i,hi=>by omega
 |k+1,l',h,i,hi=>by
  unfold tu at h
  cases hc:tu l zs k with
  |none=>rw[hc]at h;cases h
  |some a=>
   rw[hc]at h;simp only[aO]at h;split at h
   .rename_i hq
    by_cases e:i=k
    .subst e
     have:=Of hq.2;rw[JR hc]at this;exact this
    .exact JS hc i (by omega)
   .cases h
def Cy{ws:List Int}{n:Nat}(h:(List.range n).all (jM ws)=true):∀i,i<n->299999<ws.getD (i*2) 0
 |0,hi=>by
  have:=an.1 h 0 (aJ.2 hi);unfold jM jR at this;simp at this;have h1:=this.1.1;simpa using h1
 |i+1,hi=>by
  have h1:=Cy h i (by omega);have:=an.1 h (i+1) (aJ.2 hi);unfold jM jR at this;rw[aj (by omega)]at this;simp only[am,aD,cY]at this;omega
def uH{x:gR}(h:iI x=true):Tc x:=by
 have d:∀k,k<6->jO x k=true:=fun k g=>an.1 h k (aJ.2 g)
 have h1:pN x.i9 x.pb=true:=d 1 (by omega);have h2:jx x.i9 x.fs (x.fs.length/2)=true:=d 2 (by omega);have h3:VY x.p9 x.ws (x.ws.length/2)=true:=d 3 (by omega);have a:iW x.stop x.l=true:=d 4 (by omega);have h5:jo x.l x.cf=true:=d 5 (by omega);unfold pN at h1;rw[am]at h1;have m:=rV h1.1;have n:=rV h1.2;unfold jx at h2;rw[am]at h2;unfold VY at h3;simp only[am]at h3;have o:=rV h3.1.2;have p:=rV h3.2;unfold iW at a;simp only[am]at a;have q:=rV a.1.1.1.1;have g2:=rV a.1.1.1.2;unfold jo at h5;simp only[am]at h5;refine⟨by omega,by omega,by omega,by omega,fun i hi=>?_,fun i hi=>?_,fun y j=>?_,fun c f i hi=>?_⟩
 .have:=an.1 h2.1 i (aJ.2 hi)
  unfold iV tc at this;simp only[am]at this;have a1:=rV this.1.1;have a2:=rV this.1.2
  have r:jj x.i9<=1000000000:=by unfold jj;split<;>omega
  omega
 .have e:=Cy h3.1.1 i hi
  have:=an.1 h3.1.1 i (aJ.2 hi);unfold jM at this;simp only[am,aD]at this;have a1:=rV this.2;omega
 .have hb:=a.1.1.2
  unfold uM at hb;rw[di,du]at hb;have:=hb y j;simpa using this
 .have b:=an.1 h5.1.1 c f
  unfold lr at b
  cases hch:tu x.l c.zs (c.zs.length/3)with
  |none=>rw[hch]at b;cases b
  |some l'=>
   have:=JS hch i hi;omega
abbrev mN:=List UInt8
def AJ{s:gW}{zs:List Int}{n:Nat}(h:oA s zs n=true)(b:VX s.gA≠[]):kI s.gA=true:=by
 unfold oA at h;rw[am]at h;have a:pC s zs n 5=true:=an.1 h.1 5 (by decide);have a:rI s=true:=a;unfold rI at a;rw[dN]at a
 obtain a|a:=a
 .rw[List.isEmpty_iff]at a
  have:s.gA.data.toList=[]:=by rw[<- ByteArray.toList_eq];exact a
  exact absurd this b
 .exact a
def IW{ks:List ByteArray}(h:vV ks=true):∀k∈ks,kI k=true:=fun k a=>by
 obtain⟨i,hi,rfl⟩:=List.mem_iff_getElem.1 a;have:=an.1 h i (aJ.2 hi);unfold od at this;rw[ae hi]at this;simp only[am]at this;exact this.2
def AK{x:gR}(h:iI x=true):∀c∈x.cf,kI c.nm=true:=fun c a=>by
 have h5:jo x.l x.cf=true:=an.1 h 5 (by decide);unfold jo at h5;rw[am]at h5;exact IW h5.2 c.nm (cP.2 ⟨c,a,rfl⟩)
def AL{x:gR}(h:iI x=true):kI x.nm=true:=an.1 h 0 (by decide)

