import Derived.Test.YtgohdcccfkjooaaGreatDoorSAQ
namespace Go.Proofs.YtgohdcccfkjooaaGreatDoor
set_option linter.all false
set_option maxRecDepth 100000
set_option maxHeartbeats 1600000
open Go.Proofs.Tryz Go.RowKit
def SH{W' g x a f v s k m g2 n cap}(d:jm W' g x a f v s k m){c}(e:c=((W'.setCell ⟨g,7,none⟩ (.slice (J g2) n cap)).alloc (.map #[] 0)).setCell ⟨g,10,none⟩ (.map (some W'))):
 jm c g x a f v ⟨some ⟨g2,0,none⟩,n,cap⟩ k (.map (some W'))/\oC c W' []/\(∀b,b≠g->b<W'.heap.size->c.heap[b]? =W'.heap[b]?)/\Below g W' c:=by
 subst e;have hlt:=TK d;have h1:jm (W'.setCell ⟨g,7,none⟩ (.slice (J g2) n cap)) g x a f v ⟨some ⟨g2,0,none⟩,n,cap⟩ k m:=nJ d rfl
 have h:(W'.setCell ⟨g,7,none⟩ (.slice (J g2) n cap)).heap.size=W'.heap.size:=by simp
 have h2:jm ((W'.setCell ⟨g,7,none⟩ (.slice (J g2) n cap)).alloc (.map #[] 0)) g x a f v ⟨some ⟨g2,0,none⟩,n,cap⟩ k m:=(alloc_old (by omega)).trans h1;refine⟨nJ h2 rfl,⟨#[],0,(iS (by omega)).trans (ku h),rfl⟩,fun b h3 i=>(iS h3).trans ((alloc_old (by omega)).trans (iS h3)),?_⟩;exact kZ ((kZ (TH g W') (aa _)).alloc (by omega) _) (aa _)
def wF(z:Int):gW:=⟨z,0,0,0,0,0,0,0,0,0,0,0,0,⟨#[]⟩,0,0,0,0,0,0,0⟩
def N2{W' g x a f v s k m}(g2 n cap)(b:jm W' g x a f v s k m):((W'.setCell ⟨g,7,none⟩ (.slice (J g2) n cap)).alloc (.map #[] 0)).cell? ⟨g,10,none⟩=some m/\((W'.setCell ⟨g,7,none⟩ (.slice (J g2) n cap)).alloc (.map #[] 0)).frozen? ⟨g,10,none⟩=false:=by
 have hlt:=TK b;have h1:jm (W'.setCell ⟨g,7,none⟩ (.slice (J g2) n cap)) g x a f v ⟨some ⟨g2,0,none⟩,n,cap⟩ k m:=nJ b rfl;have h2:jm ((W'.setCell ⟨g,7,none⟩ (.slice (J g2) n cap)).alloc (.map #[] 0)) g x a f v ⟨some ⟨g2,0,none⟩,n,cap⟩ k m:=(alloc_old (by simp;omega)).trans h1;exact jm.cell h2 10
def xq.go{α R k}(ok:kR k R){T B}{D:Nat->Prop}{W W'}{p:iJ}{l:List α}{css:List (List Value)}(h:xq R k T B D W p l css)(c:Below W W W'):xq R k T B D W' p l css:=
 ⟨kD h.row c,h.len,h.n,h.k,fun i x cs h1 h2=>ok.kept (h.rep i x cs h1 h2) (fun b a=>c.block b a.2.1) (fun b a=>⟨a.1,ab a.2.1 c.size,a.2.2⟩),h.inD⟩
def Aw(x v):jk x 7 [v]=(kP.findIdx? (· ==v)).map fun i=>{x with l:=x.l++[lJ (i+1)]}:=rfl
def qN{l:List (List UInt8)}{s i}(h:l.findIdx? (· ==s)=some i):i<l.length:=by
 rw[fm]at h;exact h.1
def DM{B g w cc}{D:Nat->Prop}{r W ws a n c N}(h:vM B g w cc D r W)(hw:ua W a n c ws W)(hat:r.at_<=7)(hc:cc<=100001)(hB:B<=W.heap.size)(hT:TW N W)(hN:N<=W.heap.size):
 Calls prog 334 #[U g,Z a n c] W (iE B g w cc D ((jk r.x 7 ws).map fun y=>⟨y,((7:Nat):Int),[]⟩) W):=by
 have c3:g<B:=by obtain⟨f,v,s,k,m,Q,L⟩:=h;exact L.gB
 obtain⟨ka,kn,kc,hk,a0⟩:=hT.kin;have a8:2<W.heap.size:=ab (ab (show 2<14 by decide) hT.glo) hN;have A:Below W W W.drew:=⟨rfl,rfl,rfl,aa _,fun _ _=>rfl⟩;have c6:=@run_makeMap prog;have b5:kn=4:=a0.1.symm;subst b5;have E:ua W.drew ka 4 kc kP N:=a0.kept (fun _ _=>rfl) (aa _);have H:=O (h.go A);have Hw:=O (sV hw A);have a7:=O hat;have P:=O A;have Hk:=O E;have X:W.drew.cell? (J 2)=some (.slice ka 4 kc):=hk;have a3:2<W.drew.heap.size:=a8;clear h hw hat a0 E hT A hk a8;go_enter func334,ntmps334;go_upto_region 0 with fail;refine gS 4 [(0,true),(1,true),(2,false),(3,false)] (by kernel_rfl) (by kernel_rfl) ?_
 iterate 2
  refine gU (v:=?_) ?_ ?_;rotate_left
  .intro y hy
   have k1:=(hy.cell (p:=J 2) a3).trans X;go_simp;with_reducible rfl
  try simp only[V]
 refine gP (fun KK u=>?_);go_simp;refine(nF ws a n c _ W.drew Hw).mono ?_;rintro e w1 ⟨he,rfl⟩
 obtain ⟨x,rfl,rfl⟩|⟨b6,rfl⟩:=lF he
 .refine u _ _ (TH _ _) ?_
  clear u KK he;(try simp only[V]);refine gP (fun KK u=>?_);go_simp;refine(Ar kP x ka 4 kc N W.drew Hk hN (by omega)).mono ?_;rintro e j ⟨rfl,d⟩;refine u _ _ d ?_;clear u KK;(try simp only[V]);refine iu rfl ?_
  cases hi:kP.findIdx? (· ==x)with
  |none=>
   have S:iE B g w cc D ((jk r.x 7 [x]).map fun y=>(⟨y,((7:Nat):Int),[]⟩:jL)) W iX j:=iE.bad (la (by rw[Aw,hi];rfl)) (P.trans d) (by omega);have b:=S;clear S hi d X;unfold Lj;unfold iX at b;have M:=O b;clear b;go_wp2_with fail;refine(lm j).mono ?_;rintro e w3 ⟨rfl,rfl⟩;unfold iX;go_wp2_with fail;exact⟨rfl,M⟩
  |some i=>
   have c4:i<4:=qN hi;have hr:((jk r.x 7 [x]).map fun y=>(⟨y,((7:Nat):Int),[]⟩:jL))=some ⟨{r.x with l:=r.x.l++[lJ (i+1)]},7,[]⟩:=map_some (k:=7) (by rw[Aw,hi];rfl);obtain⟨f,v,s,k,m,Q,L⟩:=H.go d;have b7:=L.l.1;obtain⟨css,hO⟩:=L.l.own a7 (by omega);obtain⟨cg,fg⟩:=Q.cell 7;have c5:=TK Q
   have c2:B<=j.heap.size:=by have:=d.size;exact af hB this
   have Hr:=O hr;have HA:=O Q;have HL:=O L;have HO:=O hO;have Hb:=O (P.trans d);clear hr Q L hO d hi Hk H Hw X;obtain⟨sa,sn,sc⟩:=s
   change j.cell? ⟨g,7,none⟩=some (.slice sa sn sc)at cg
   change sn<=cc at b7
   unfold Lj;go_wp2_with fail;refine(kW j).mono ?_;rintro e w3 ⟨rfl,rfl⟩;have q:Below j j (j.alloc (.cells (gX (wF ((i:Int)+1)) none 0 0).toArray 70)):=(TH _ _).alloc (aa _) _;have R:=HA.go q;have a5:=O R;have b0:=O (HL.go q);have a4:=TK R;have t:=kD HO.row q;have C:=HO.inD
   have b3:B<=(j.alloc (.cells (gX (wF ((i:Int)+1)) none 0 0).toArray 70)).heap.size:=by have:=q.size;omega
   have F:=TL j (.cells (gX (wF ((i:Int)+1)) none 0 0).toArray 70);have a6:=O q;have a1:=O F;have o:=O t;have b8:=O C;clear q F t C R
   go_wp2_with(refine DL underlying34 Tryz.infoSurf3 rfl (by omega) (by omega) rfl _ _ rfl B _ (.slice sa sn sc) sn j _ (gX (wF ((i:Int)+1)) none 0 0) rfl o a1 rfl rfl (by simp[Value.oneCell',gX]) (by omega) b3 ?_;intro g2 cap w5 K T b4;have z:=(T.kept g a4 (fun e=>by have:=(gT o e).1;omega)).trans a5;obtain⟨b2,c1⟩:=jm.cell z 7;change w5.cell? ⟨g,7,none⟩=some (.slice sa sn sc)at b2;obtain⟨b9,c0⟩:=N2 g2 (sn+1) cap z;have a2:=O K;have b1:=O T;have a9:=O z;clear K T z cg fg)
   go_end0;obtain⟨q1,q2,q3,q4⟩:=SH (g2:=g2) (n:=sn+1) (cap:=cap) a9 rfl;exact Bp Hr (I Hb a6) a5 b0 (HO.go iD a6) a2 b1 b4 a7 hc hB q1 q2 (aa _) q3 q4
 .have S:iE B g w cc D ((jk r.x 7 ws).map fun y=>(⟨y,((7:Nat):Int),[]⟩:jL)) W iX W.drew:=iE.bad (la (oX (by omega) b6)) P (by omega)
  have Hb:=O S;clear S;have b:=Hb.out;unfold iX at b⊢;have M:=O b;clear b Hb;exact⟨rfl,M⟩
def IG(x v):jk x 8 [v]=some {x with cf:=x.cf++[⟨bs v,[]⟩]}:=rfl
def Tryz.infoConfQ:(prog.info? 75).map (fun i=>(i.zero,i.size,i.bytes))=some (some (.agg #[.string {data:=#[]},oN]),2,40):=by kernel_rfl
def FO{B g E cc}{D:Nat->Prop}{r W ws a n c}(h:vM B g E cc D r W)(hw:ua W a n c ws W)(hl:∀s∈ws,s.length<=100000)(hat:r.at_<=8)(hc:cc<=100001)(hB:B<=W.heap.size):
 Calls prog 335 #[U g,Z a n c] W (iE B g E cc D ((jk r.x 8 ws).map fun y=>⟨y,((8:Nat):Int),[]⟩) W):=by
 have l:Below W W W.drew:=⟨rfl,rfl,rfl,aa _,fun _ _=>rfl⟩;obtain⟨f,v,s,k,m,H,w⟩:=h.go l;have b3:=w.gB;have a9:=w.cf.1;have b2:=w.c1;obtain⟨css,hO⟩:=w.cf.own hat (by omega);obtain⟨P,fg⟩:=H.cell 8;have a7:=TK H;have b1:B<=W.drew.heap.size:=hB;have Hw:=O (sV hw l);have a1:=O hat;have M:=O l;have HA:=O H;have HL:=O w;have T:=O hO;have Hl:=O hl;clear h hw hat l H w hO hl;obtain⟨K,kn,L⟩:=k
 change W.drew.cell? ⟨g,8,none⟩=some (.slice K kn L)at P
 change kn<=cc at a9
 go_enter func335,ntmps335;refine kC (S:=fun x=>x=g) 11 [(0,true),(1,true),(2,true),(3,true),(4,true),(5,true),(6,true),(7,false),(8,true),(9,false),(10,false)] (by kernel_rfl) (by kernel_rfl) ?_
 iterate 7
  refine kQ (v:=?_) ?_ ?_;rotate_left
  .intro y z
   have k1:=(z.cell (p:=⟨g,8,none⟩) rfl).trans P;go_simp;with_reducible rfl
  try simp only[V]
 refine iT (fun C d=>?_);go_simp;refine(nF ws a n c _ W.drew Hw).mono ?_;rintro e w1 ⟨he,rfl⟩
 obtain ⟨x,rfl,rfl⟩|⟨a8,rfl⟩:=lF he
 .refine d _ _ (gN.refl _ _) ?_
  clear d C he;try simp only[V]
  iterate 1
   refine kQ (v:=?_) ?_ ?_;rotate_left
   .intro y z
    skip;go_simp;with_reducible rfl
   try simp only[V]
  have hx:=Hl x (by simp);have i:Below W.drew W.drew (W.drew.alloc (.cells [Value.string (bs x),oN].toArray 75)):=(TH _ _).alloc (aa _) _;have j:=HA.go i;have t:=TK j;have b:=kD T.row i
  have a5:B<=(W.drew.alloc (.cells [Value.string (bs x),oN].toArray 75)).heap.size:=by have:=i.size;omega
  refine iT (fun C d=>?_);go_simp;refine d _ _ (fun y z=>alloc_old (by cases z;exact a7)) ?_;clear d C;(try simp only[V]);refine iT (fun C d=>?_);refine nR underlying35 Tryz.infoConfQ rfl (by omega) (by omega) _ _ rfl B _ (.slice K kn L) kn W _ [.string (bs x),oN] rfl b (TL W.drew _) rfl rfl (by simp[Value.oneCell']) (by omega) a5 ?_;intro g2 cap w5 u q a6
  have o:(Value.slice K kn L).ownBlock≠some g:=fun e=>by have:=(gT b e).1;omega
  refine d _ _ (fun y z=>by cases z;exact q.kept g t o) ?_;clear d C;have N:=(q.kept g t o).trans j;obtain⟨a4,b0⟩:=jm.cell N 8
  change w5.cell? ⟨g,8,none⟩=some (.slice K kn L)at a4
  have Q:=O j;have R:=O (HL.go i);have X:=O (T.go ky i);have a0:=O (M.trans i);have F:=O u;have a3:=O q;have Hx:=O hx;clear j i u q b N P fg hx;(try simp only[V]);refine nK rfl ?_;go_wp2_with fail;go_end0;exact DI (map_some (k:=8) (IG _ _)) (by rw[Tb];have:=Hx.out;omega) a0 Q R X F a3 a6 a1 hc hB
 .have hb:iE B g E cc D ((jk r.x 8 ws).map fun y=>(⟨y,((8:Nat):Int),[]⟩:jL)) W iX W.drew:=iE.bad (la (oX (by omega) a8)) M (by omega)
  have Hb:=O hb;clear hb;have A:=Hb.out;unfold iX at A⊢;have a2:=O A;clear A Hb;exact⟨rfl,a2⟩
def lX(r:jL)(a:List UInt8)(ws:List (List UInt8)):Option jL:=
 if a≠lG/\a∈r.seen then none else(ou r.x.l fun y=>Ad y (a::ws)).map fun l=>⟨{r.x with l:=l},7,if a=lG then r.seen else r.seen++[a]⟩
def qf{α}(l0 y)(f:α->Option α):ou (l0++[y]) f=(f y).map fun z=>l0++[z]:=by
 unfold ou;simp
def sW{r l0 y}(a:r.x.l=l0++[y])(ws):lX r lG ws=(kF ws [7,0,0]).map fun b=>⟨{r.x with l:=l0++[⟨y.s,y.zs++b⟩]},7,r.seen⟩:=by
 unfold lX;rw[aj (by simp),a,qf];unfold Ad;simp only[bX];cases kF ws [7,0,0] <;>rfl
def IH{r a ws}(h1:a≠lG)(h2:a∈r.seen):lX r a ws=none:=by
 unfold lX;rw[aq ⟨h1,h2⟩]
def LR{r a ws}(h1:a≠lG)(h2:ws.length≠1):lX r a ws=none:=by
 unfold lX;split
 .rfl
 .have b:∀y,Ad y (a::ws)=none:=fun y=>by
   unfold Ad;simp only[aj h1]
   match ws,h2 with
   |[],_=>rfl
   |[v],h=>simp at h
   |_::_::_,_=>rfl
  unfold ou
  cases r.x.l.getLast? with
  |none=>rfl
  |some y=>simp[b]
def nS{r:jL}{l0:List gM}{y:gM}(b:r.x.l=l0++[y]){a v:List UInt8}(h1:a≠lG)(h2:a ∉ r.seen):lX r a [v]=if a=lP then some ⟨{r.x with l:=l0++[⟨{y.s with i7:=bs v},y.zs⟩]},7,r.seen++[a]⟩else match Dv a with
 |none=>none
 |some d=>(lp v d).map fun n=>⟨{r.x with l:=l0++[⟨Ac y.s a n,y.zs⟩]},7,r.seen++[a]⟩:=by
 unfold lX;rw[aj (fun h=>h2 h.2),b,qf];unfold Ad;simp only[aj h1];split
 .rfl
 .cases Dv a with
  |none=>rfl
  |some d=>cases hv:lp v d<;>simp[hv]
def JQ(s):∀ks:List (List UInt8),rx (bs s) (ks.map bs)=decide (s∈ks)
 |[]=>rfl
 |k::ks=>by
  have a:=JQ s ks;unfold rx at a⊢;rw[aN,eN,a,NC];by_cases h:s=k
  .subst h;simp
  .have:(s==k)=false:=by rw[ak];exact h
   rw[this];simp[h]
structure DN (fid:FuncId) (off d:Nat) (fw:List UInt8):Prop where
 call:∀b k w,Calls prog fid #[.pointer (some ⟨b,k,none⟩)] w fun e w'=>e=.returned (.pointer (some ⟨b,k+off,none⟩))/\w=w'
 ent:∀args w,(callFunc fid args).run prog w=.ok (.enter fid args) w
 dig:Dv fw=some d
 lt:off<22
 d18:d<=18
 set:∀s a n c z,(gX s a n c).set off (.int .i64 z)=gX (Ac s fw z) a n c
 i7:∀s z,(Ac s fw z).i7=s.i7
def ug{a i}(h:kO.findIdx? (· ==a)=some i):rD a=some (i+1):=by unfold rD;rw[h];rfl
def yo{a}(h:kO.findIdx? (· ==a)=none):rD a=none:=by unfold rD;rw[h];rfl
def yP(p):oo p<=18:=by unfold oo;split;omega;split<;>omega
def N3(args w):(callFunc 308 args).run prog w=.ok (.enter 308 args) w:=by kernel_rfl
def N4(args w):(callFunc 309 args).run prog w=.ok (.enter 309 args) w:=by kernel_rfl
def N5(args w):(callFunc 310 args).run prog w=.ok (.enter 310 args) w:=by kernel_rfl
def N6(args w):(callFunc 311 args).run prog w=.ok (.enter 311 args) w:=by kernel_rfl
def N7(args w):(callFunc 312 args).run prog w=.ok (.enter 312 args) w:=by kernel_rfl
def N8(args w):(callFunc 313 args).run prog w=.ok (.enter 313 args) w:=by kernel_rfl
def N9(args w):(callFunc 314 args).run prog w=.ok (.enter 314 args) w:=by kernel_rfl
def Oc(args w):(callFunc 315 args).run prog w=.ok (.enter 315 args) w:=by kernel_rfl
def Od(args w):(callFunc 316 args).run prog w=.ok (.enter 316 args) w:=by kernel_rfl
def LS(args w):(callFunc 317 args).run prog w=.ok (.enter 317 args) w:=by kernel_rfl
def LT(args w):(callFunc 318 args).run prog w=.ok (.enter 318 args) w:=by kernel_rfl
def LU(args w):(callFunc 319 args).run prog w=.ok (.enter 319 args) w:=by kernel_rfl
def TY(args w):(callFunc 320 args).run prog w=.ok (.enter 320 args) w:=by kernel_rfl
def LW(args w):(callFunc 321 args).run prog w=.ok (.enter 321 args) w:=by kernel_rfl
def LX(args w):(callFunc 322 args).run prog w=.ok (.enter 322 args) w:=by kernel_rfl
def LY(args w):(callFunc 323 args).run prog w=.ok (.enter 323 args) w:=by kernel_rfl
def LZ(args w):(callFunc 324 args).run prog w=.ok (.enter 324 args) w:=by kernel_rfl
def Cw(i)(hi:i<17):∀args w,(callFunc (QB i) args).run prog w=.ok (.enter (QB i) args) w:=by
 match i,hi with
 |0,_=>exact N3
 |1,_=>exact N4
 |2,_=>exact N5
 |3,_=>exact N6
 |4,_=>exact N7
 |5,_=>exact N8
 |6,_=>exact N9
 |7,_=>exact Oc
 |8,_=>exact Od
 |9,_=>exact LS
 |10,_=>exact LT
 |11,_=>exact LU
 |12,_=>exact TY
 |13,_=>exact LW
 |14,_=>exact LX
 |15,_=>exact LY
 |16,_=>exact LZ
 |i+17,hi=>omega
def L0{e i}(h:kO.findIdx? (· ==e)=some i):DN (QB i) (Iv i) (oo (i+1)) e:=by
 have hi:i<17:=qN h;have d:=ug h;refine⟨fun b k w=>JN i hi b k w,Cw i hi,by unfold Dv;rw[d],?_,yP _,fun s a n c z=>?_,fun s z=>?_⟩
 .have:∀i,i<17->Iv i<22:=by decide
  exact this i hi
 .unfold Ac;rw[d]
  match i,hi with
  |0,_=>rfl
  |1,_=>rfl
  |2,_=>rfl
  |3,_=>rfl
  |4,_=>rfl
  |5,_=>rfl
  |6,_=>rfl
  |7,_=>rfl
  |8,_=>rfl
  |9,_=>rfl
  |10,_=>rfl
  |11,_=>rfl
  |12,_=>rfl
  |13,_=>rfl
  |14,_=>rfl
  |15,_=>rfl
  |16,_=>rfl
  |i+17,hi=>omega
 .unfold Ac;rw[d]
  match i,hi with
  |0,_=>rfl
  |1,_=>rfl
  |2,_=>rfl
  |3,_=>rfl
  |4,_=>rfl
  |5,_=>rfl
  |6,_=>rfl
  |7,_=>rfl
  |8,_=>rfl
  |9,_=>rfl
  |10,_=>rfl
  |11,_=>rfl
  |12,_=>rfl
  |13,_=>rfl
  |14,_=>rfl
  |15,_=>rfl
  |16,_=>rfl
  |i+17,hi=>omega
def Ax:DN 325 15 6 lB:=
 ⟨fun b k w=>NN b k w,fun args w=>by kernel_rfl,by decide,by omega,by omega,fun s a n c z=>rfl,fun s z=>rfl⟩
def yq:DN 326 11 0 kj:=
 ⟨fun b k w=>Ls b k w,fun args w=>by kernel_rfl,by decide,by omega,by omega,fun s a n c z=>rfl,fun s z=>rfl⟩
def L3{a}(h:kO.findIdx? (· ==a)=none)(h1:a≠lB)(h2:a≠kj):Dv a=none:=by
 unfold Dv;rw[yo h];simp only[aj h1,aj h2]
def my.cell{B}{D:Nat->Prop}{W c p m l seen l0 y css q b cap i}(h:my B D W c p m l seen l0 y css q b cap i){j}(t:j<22):W.cell? ⟨b,l0.length*22+j,none⟩=(gX y.s q.a q.n q.c)[j]? /\W.frozen? ⟨b,l0.length*22+j,none⟩=false:=by
 obtain ⟨e,_⟩|⟨r,g,o,e,u,f,v,w,x,k⟩:=h.row.2
 .cases e
 .cases e
  refine⟨?_,gD f _⟩;rw[gA f];have d:=ai (fun l=>l[l0.length*22+j]?) k;rw[cZ,aq (by omega),aY (by rw[h.flat];omega),h.flat,dR]at d;rw[<- d];simp
def qL.cell{B}{D:Nat->Prop}{W c p l l0 y css q b cap}(h:qL B D W c p l l0 y css q b cap){j}(o:j<2):W.cell? ⟨b,l0.length*2+j,none⟩=[Value.string y.nm,.slice q.a q.n q.c][j]? /\W.frozen? ⟨b,l0.length*2+j,none⟩=false:=by
 obtain ⟨e,_⟩|⟨m,g,k,e,r,f,s,t,u,i⟩:=h.row.2
 .cases e
 .cases e
  refine⟨?_,gD f _⟩;rw[gA f];have d:=ai (fun l=>l[l0.length*2+j]?) i;rw[cZ,aq (by omega),aY (by rw[h.flat];omega),h.flat,dR]at d;rw[<- d];simp
def Ay{W A c B}{v:List UInt8}{ws}(h:ua W (J A) (ws.length+1) c (v::ws) B):ua W (some ⟨A,1,none⟩) ws.length (c-1) ws B:=by
 obtain⟨_,h2,h3⟩:=h;refine⟨rfl,by omega,fun h0=>?_⟩;obtain⟨g,off,e,a,h5⟩:=h3 (by omega);cases e;refine⟨A,1,rfl,a,fun j x b=>?_⟩;have:=h5 (j+1) x (by simpa using b);rw[show(1:Nat)+j=0+(j+1)by omega];exact this
def sT.word{B}{D:Nat->Prop}{W T k p zs}(h:sT B D W T k p zs)(r:0<k){A s}(l:W.cell? (J A)=some (.string s)):p.v.ownBlock≠some A:=by
 intro e;obtain⟨a,n,c⟩:=p;have f:=h.pos;have d:=h.row
 cases a with
 |none=>cases e
 |some o=>
  have q:o.block=A:=by simpa[iJ.v,Value.ownBlock]using e
  have t:0<n:=bq fun h0=>by cases f h0
  rcases(mz d).2 with⟨i,_⟩|⟨g,cap,i,_,_,b⟩
  .cases i
  .cases i
   have m:=d.1;rw[aU]at m
   have h0:0<(zs.map (Value.int .i64)).length:=by rw[aU,m];exact dZ t r
   have:=b.cell (j:=0) h0;rw[<- q]at l;rw[l]at this;simp at this
def my.go{B}{D:Nat->Prop}{W W' c p m l seen l0 y css q a cap d}(h:my B D W c p m l seen l0 y css q a cap d)(e:Below W W W'):my B D W' c p m l seen l0 y css q a cap d:=h.keep (fun b _ f=>e.block b f) e.size
def qL.go{B}{D:Nat->Prop}{W W' c p l l0 y css q a cap}(h:qL B D W c p l l0 y css q a cap)(d:Below W W W'):qL B D W' c p l l0 y css q a cap:=h.keep (fun b _ e=>d.block b e) d.size
def mf{B g a c}{D:Nat->Prop}{d}{W i W':World}{e}(h:iE B g a c D d i e W')(f:Below W W i)(p:g<=W.heap.size):iE B g a c D d W e W':=by
 obtain⟨h1,h2,h3⟩:=h;have s:=f.size;refine⟨(f.mono p).trans h1,fun k r o=>(h2 k (by omega) o).trans (f.block k r),h3.imp ?_ id⟩;rintro⟨q,l,m,D',n,h5⟩;exact⟨q,l,m,D',fun b j=>(n b j).imp id (fun h=>by omega),h5⟩
def II{B g c f}{D:Nat->Prop}{d a W}(o:d=none)(n:∀b,b<a.heap.size->b≠f->W.heap[b]? =a.heap[b]?)(h:Below B a W)(i:D f)(m:g<=B):iE B g 7 c D d a iX W:=
 ⟨h.mono m,fun k j l=>n k j (fun e=>l (by rw[e];exact i)),VS ⟨o,rfl⟩⟩
def Oe{W:World}{b}(d e f:Nat)(a:W.heap[b]? =some (.cells #[.int .i64 (d:Int),.int .i64 (e:Int),.int .i64 (f:Int)] 3 (0,0))):SL W W (J b) 3 3 ([d,e,f].map fun(x:Nat)=>(x:Int)):=by
 refine⟨rfl,aa _,fun _=>⟨b,0,rfl,TK a,fun j c=>?_⟩⟩
 match j,c with
 |0,_=>exact gA a 0
 |1,_=>exact gA a 1
 |2,_=>exact gA a 2
 |j+3,c=>omega
def Tryz.zeroPar(w):(zeroValue 116).run prog w=.ok (.agg #[.string {data:=#[]},oZ,.nilFunc]) w:=by kernel_rfl
def my.upd{B}{D:Nat->Prop}{a W W' c p m l seen l0 y css q i cap d j}(h:my B D a c p m l seen l0 y css q i cap d)(f:Below a a W)(s:oC W' d ((seen.map bs)++[bs j]))(o:W.grownBy W' (some d))(n:B<=a.heap.size):
 my B D W' c p m l (seen++[j]) l0 y css q i cap d/\(∀b,b<a.heap.size->b≠d->W'.heap[b]? =a.heap[b]?)/\Below B a W':=by
 have r:∀b,b<a.heap.size->b≠d->W'.heap[b]? =a.heap[b]? :=fun b h1 h2=>(o.block b (ab h1 f.size) (fun e=>h2 (by cases e;rfl))).trans (f.block b h1)
 have g:Below B a W':=(f.mono n).grown o (af n f.size) (fun k e=>by cases e;exact h.bmB);exact⟨h.mapSet r g.size (by rw[aT];exact s),r,g⟩
def mp{ops a g c w}{Q:Exit->Act->World->Prop}{b}{u x z0 f:Value}{s:ByteArray}{d:Int}(e:w.heap[b]? =some (.cells #[u,x,z0] 116 (0,0)))(hf:f.oneCell'=true)(k:g.guard=none)(p q:Operand)(o:g.op=.store 116 p q)(r:c.eval p=.pointer (J b))(t:c.eval q=.agg #[s,d,f])(n:∀w',w'.heap[b]? =some (.cells #[s,d,f] 116 (0,0))->(∀B w0,B<=b->Below B w0 w->Below B w0 w')->wpList prog ops Q a (c.put g.dst undef) w'):wpList prog ops Q (g::a) c w:=by
 refine wpList_store_mid k 116 p q o b 0 #[s,d,f] r t (fun j i=>?_) Tryz.infoPar (all_oneCell_toArray (cs:=[.string s,.int .i64 d,f]) (by intro v l;simp only[aS,bi,cR]at l;obtain rfl|rfl|rfl:=l;rfl;rfl;exact hf)) ?_
 .match j,i with
  |0,_=>simp[World.cell?,World.frozen?,e]
  |1,_=>simp[World.cell?,World.frozen?,e]
  |2,_=>simp[World.cell?,World.frozen?,e]
  |j+3,i=>simp at i;omega
 .refine n _ ?_ (fun B w0 m h=>?_)
  .have:=tH e 0 [s,d,f] (by simp)
   simpa using this
  .exact ig m _ _ h
def L4(a):∃(nm:List UInt8)(d:Nat)(F:Value),(yE a).getD (.agg #[.string {data:=#[]},oZ,.nilFunc])=.agg #[.string (bs nm),.int .i64 (d:Int),F]/\((yE a).isSome=true->kO.findIdx? (· ==a)=none/\ ∃b off,F=.func (.func b) #[] #[]/\DN b off d a)/\((yE a).isSome=false->a≠lB/\a≠kj)/\F.oneCell'=true:=by
 by_cases h1:a=lB
 .subst h1
  exact⟨lB,6,_,rfl,fun _=>⟨by decide,_,15,rfl,Ax⟩,(fun h=>by cases h),rfl⟩
 .by_cases h2:a=kj
  .subst h2
   exact⟨kj,0,_,rfl,fun _=>⟨by decide,_,11,rfl,yq⟩,(fun h=>by cases h),rfl⟩
  .have:yE a=none:=by unfold yE;rw[aj h1,aj h2]
   rw[this];exact⟨[],0,.nilFunc,rfl,(fun h=>by cases h),(fun _=>⟨h1,h2⟩),rfl⟩
def L6{B g cc A n c N}{D:Nat->Prop}{r W}{d:List UInt8}{ws}(h:vM B g 7 cc D r W)(hat:r.at_=7)(hw:ua W (J A) n c (d::ws) W)(hl:∀s∈d::ws,s.length<=100000)(hn:ws.length<=100000)(hc:cc<=100001)(hB:B<=W.heap.size)(hg:GW W)(hT:TW N W)(i0:N<=B):
 Calls prog 91 #[U g,Z (J A) n c] W (iE B g 7 cc D (lX r d ws) W):=by
 have c8:Below W W W.drew:=⟨rfl,rfl,rfl,aa _,fun _ _=>rfl⟩;have g3:=sV hw c8;obtain⟨f,v,s,k,m,hA,hL⟩:=h.go c8;have q3:=hL.gB
 obtain ⟨h7,_⟩|⟨_,l0,y,css,q,bb,cap,bm,hS⟩|⟨h7,_⟩:=hL.l.2
 .omega
 .have e1:=hS.ep
  have e2:=hS.em;subst e1;subst e2;have c7:W.drew.cell? ⟨g,7,none⟩=some (.slice (J bb) (l0.length+1) cap):=(hA.cell 7).1;have f8:g<W.drew.heap.size:=TK hA
  have o8:l0.length+1<=cap:=by
   obtain ⟨e,_⟩|⟨g',o5,p4,e,_,_,h3,_⟩:=hS.row.2
   .cases e
   .cases e;exact h3
  have q4:l0.length<=100001:=by have:=hL.l.1;have:l0.length+1<=cc:=this;omega
  have e4:n=ws.length+1:=by have:=hw.1;simp at this;omega
  subst e4;have p9:ws.length+1<=c:=hw.2.1
  have a5:W.drew.cell? (J A)=some (.string (bs d)):=by
   obtain⟨g',off,e,_,h3⟩:=g3.2.2 (by omega);cases e;exact h3 0 d rfl
  have e3:A<W.drew.heap.size:=by
   obtain⟨g',off,e,h3,_⟩:=g3.2.2 (by omega);cases e;exact h3
  have HA:=O hA;have HL:=O hL;have H:=O hS;have Hw:=O g3;have Hl:=O hl;have Hg:=O (hg.below c8);have HT:=O (hT.below (c8.mono (af i0 hB)));have Hd:=O c8;have Hn:=O hn;have e8:=O hat;have n3:B<=W.drew.heap.size:=hB;clear hA hL hS g3 hl hg hT c8 hw h hn hat;go_enter func91,ntmps91;go_upto_region 0 with fail;refine gS 13 [(0,true),(1,true),(2,true),(3,true),(4,true),(5,true),(6,true),(7,true),(8,true),(9,true),(10,true),(11,true),(12,true)] (by kernel_rfl) (by kernel_rfl) ?_;have g7:IntKind.i64.wrap (l0.length:Int)=(l0.length:Int):=TM _ (by omega)
  iterate 11
   refine gU (v:=?_) ?_ ?_;rotate_left
   .intro y t
    have k1:=(t.cell (p:=⟨g,7,none⟩) f8).trans c7;go_simp;with_reducible rfl
   try simp only[V]
  iterate 2
   refine gU (v:=?_) ?_ ?_;rotate_left
   .intro y t
    go_simp
    try rw[g7]
    try rw[aq (show(l0.length:Int) <(l0.length:Int)+1 by omega)]
    try with_reducible rfl
   try simp only[V]
  refine iu rfl ?_;by_cases hf:d=lG
  .subst hf
   have hq:(bs lG==({data:=#[102,105,108,109]}:ByteArray))=true:=by decide
   have c0:Below W.drew W.drew (W.alloc (.cells #[.int .i64 ((7:Nat):Int),.int .i64 ((0:Nat):Int),.int .i64 ((0:Nat):Int)] 3)).drew:=(TH W.drew W.drew).alloc (aa _) (.cells #[.int .i64 ((7:Nat):Int),.int .i64 ((0:Nat):Int),.int .i64 ((0:Nat):Int)] 3);have j6:(W.alloc (.cells #[.int .i64 ((7:Nat):Int),.int .i64 ((0:Nat):Int),.int .i64 ((0:Nat):Int)] 3)).drew.heap[W.heap.size]? =some (.cells #[.int .i64 ((7:Nat):Int),.int .i64 ((0:Nat):Int),.int .i64 ((0:Nat):Int)] 3 (0,0)):=TL W _;by_cases n7:c=1
   .subst n7
    obtain rfl:ws=[]:=aX.1 (by omega);go_wp2_with fail;refine(sS [] [7,0,0] _ _ 0 3 _ 3 _ ⟨rfl,aa _,fun h0=>absurd h0 (by omega)⟩ (Oe 7 0 0 j6) (by omega) (by omega) (fun s hs=>by cases hs) (by decide) (Hg.below c0)).mono ?_;rintro e w2 M;have Q:kF [] [7,0,0]=none:=rfl;unfold mu at M;rw[Q]at M;obtain⟨rfl,a1⟩:=M;have hb:iE B g 7 cc D (lX r lG []) W iX w2:=iE.bad (by rw[sW H.el,Q];rfl) (Hd.trans (I c0 a1)) (by omega);have P:=hb;clear hb Q a1 c0 c7 a5 hq;unfold iX at P⊢;have b7:=O P;clear P;go_wp2_with fail;exact⟨rfl,b7⟩
   .go_wp2_with fail
    refine(sS ws [7,0,0] _ _ ws.length 3 _ 3 _ (sV (Ay Hw) c0) (Oe 7 0 0 j6) (by have:=Hn.out;omega) (by omega) (fun s hs=>Hl s (au _ hs)) (by decide) (Hg.below c0)).mono ?_;rintro e w2 M;have b5:=O c0;clear c0 hq
    cases Q:kF ws [7,0,0]with
    |none=>
     unfold mu at M;rw[Q]at M;obtain⟨rfl,a1⟩:=M;have hb:iE B g 7 cc D (lX r lG ws) W iX w2:=iE.bad (by rw[sW H.el,Q];rfl) (Hd.trans (I b5 a1)) (by omega);have P:=hb;clear hb Q a1 b5 c7 a5;unfold iX at P⊢;have b7:=O P;clear P;go_wp2_with fail;exact⟨rfl,b7⟩
    |some zs=>
     have hz:=qj _ _ _ Q;unfold mu at M;rw[Q]at M;obtain⟨⟨a2,c2,rfl,hs,n9⟩,a1⟩:=M
     obtain⟨z0,z1,z2,rfl⟩:∃z0 z1 z2,zs=[z0,z1,z2]:=by
      have:zs.length=3:=by rw[hz.1,hz.2];rfl
      match zs,this with
      |[x,y,z],_=>exact⟨x,y,z,rfl⟩
     obtain⟨b,off,rfl,k7,f5⟩:=hs.at (by show 0<3;omega)
     have p7:W.heap.size<b:=by have:=n9 b rfl;simp at this;omega
     have n0:w2.cell? ⟨b,off,none⟩=some (.int .i64 z0):=f5 0 (by show 0<3;omega);have n1:w2.cell? ⟨b,off+1,none⟩=some (.int .i64 z1):=f5 1 (by show 1<3;omega);have n2:w2.cell? ⟨b,off+2,none⟩=some (.int .i64 z2):=f5 2 (by show 2<3;omega);have p8:3<=c2:=hs.2.1;have hA:=HA.go (I b5 a1);have hL:=HL.go (I b5 a1);have hS:=H.go (I b5 a1)
     have hr:lX r lG ws=some ⟨{r.x with l:=l0++[⟨y.s,y.zs++[z0,z1,z2]⟩]},7,r.seen⟩:=by rw[sW hS.el,Q];rfl
     have o9:=TK hA;have n6:=hS.bbB;obtain⟨cg,fg⟩:=hS.cell (show 21<22 by omega)
     change w2.cell? ⟨bb,l0.length*22+21,none⟩=some (.slice q.a q.n q.c)at cg
     have o3:=hS.qn
     have l5:∀b,q.v.ownBlock=some b->b<W.drew.heap.size:=fun b e=>(gT H.coat.row e).2
     have Hr:=O hr;have Hb:=O (Hd.trans (I b5 a1));have l7:=O hA;have l9:=O hL;have m0:=O hS;have m5:=O l5;have o7:=H.bbB.2
     have p6:B<=w2.heap.size:=by have:=(I b5 a1).size;omega
     clear hr hA hL hS a1 Q hz f5 hs b5 Hw HA HL H c7 a5 l5;obtain⟨qa,qn,qc⟩:=q
     change w2.cell? ⟨bb,l0.length*22+21,none⟩=some (.slice qa qn qc)at cg
     change qn<=cc at o3
     go_upto_region 3 with fail;refine kC (S:=fun x=>x=bb\/x=b) 17 [(0,true),(1,true),(2,true),(3,true),(4,true),(5,true),(6,true),(7,true),(8,true),(9,true),(10,true),(11,true),(12,true),(13,true),(14,true),(15,false),(16,false)] (by kernel_rfl) (by kernel_rfl) ?_
     iterate 15
      refine kQ (v:=?_) ?_ ?_;rotate_left
      .intro y t
       have k1:=(t.cell (p:=⟨bb,l0.length*22+21,none⟩) (VR rfl)).trans cg;have k2:=(t.cell (p:=⟨b,off,none⟩) (VS rfl)).trans n0;have k3:=(t.cell (p:=⟨b,off+1,none⟩) (VS rfl)).trans n1;have k4:=(t.cell (p:=⟨b,off+2,none⟩) (VS rfl)).trans n2;go_simp;with_reducible rfl
      try simp only[V]
     refine iT (fun K hK=>?_);go_simp;refine hK _ _ (fun x hx=>alloc_old (by obtain rfl|rfl:=hx;exact n6.2;exact k7)) ?_;clear hK K;(try simp only[V]);have a0:Below w2 w2 (w2.drew.alloc (.cells [Value.int .i64 z0,.int .i64 z1,.int .i64 z2].toArray 67)):=gY ((TH _ _).drew);have h6:=l7.go a0;have j8:=l9.go a0;have c6:=m0.go a0;have i9:=ab k7 a0.size
     have m9:B<=(w2.drew.alloc (.cells [Value.int .i64 z0,.int .i64 z1,.int .i64 z2].toArray 67)).heap.size:=by have:=a0.size;omega
     have p0:=TK h6;have f2:=c6.bbB;refine iT (fun K hK=>?_);refine nR underlying68 Tryz.infoFilm3 rfl (by omega) (by omega) _ _ rfl B _ (.slice qa qn qc) qn w2 _ [.int .i64 z0,.int .i64 z1,.int .i64 z2] rfl c6.coat.row (TL w2.drew _) rfl rfl (by simp[Value.oneCell']) (by omega) m9 ?_;intro g2 o6 w g0 f7 o0;have f9:(Value.slice qa qn qc).ownBlock≠some bb:=c6.ne.1
     have j0:(Value.slice qa qn qc).ownBlock≠some b:=fun e=>by have h9:b<W.heap.size:=m5 b e;omega
     refine hK _ _ (fun x hx=>f7.kept x (by obtain rfl|rfl:=hx;exact f2.2;exact i9) (by obtain rfl|rfl:=hx;exact f9;exact j0)) ?_;clear hK K
     have g6:w.cell? ⟨bb,l0.length*22+21,none⟩=some (.slice qa qn qc)/\w.frozen? ⟨bb,l0.length*22+21,none⟩=false:=by
      have hk:=f7.kept bb f2.2 f9;obtain⟨q1,q2⟩:=c6.cell (show 21<22 by omega);exact⟨by simp only[World.cell?,hk];exact q1,by simp only[World.frozen?,hk];exact q2⟩
     obtain⟨j4,m6⟩:=g6;have HA:=O h6;have HL:=O j8;have H:=O c6;have Hb:=O (I Hb a0);have i4:=O g0;have m2:=O f7;clear h6 j8 c6 a0 g0 f7 cg fg n0 n1 n2;(try simp only[V]);refine nK rfl ?_;go_wp2_with fail;go_end0;exact ID Hr e8 Hb HA HL H i4 m2 o0 hB hc
  .have q0:(d==[102,105,108,109])=false:=by rw[ak];exact hf
   obtain⟨c5,p5⟩:=HA.cell 10
   change W.drew.cell? ⟨g,10,none⟩=some (.map (some bm))at c5
   have i6:bm<W.drew.heap.size:=H.map.lt;have Hf:=O hf;clear hf;go_upto_region 4 with fail;by_cases h1:ws.length=1
   .obtain⟨F,rfl⟩:∃F,ws=[F]:=by
     match ws,h1 with
     |[x],_=>exact⟨x,rfl⟩
    have e9:=O (JQ d r.seen)
    have h5:W.drew.cell? ⟨A,1,none⟩=some (.string (bs F)):=by
     obtain⟨g',off,e,_,h3⟩:=Hw.2.2 (by simp);cases e;exact h3 1 F rfl
    have d4:=O H.map;refine gS 14 [(0,true),(1,true),(2,true),(3,true),(4,true),(5,true),(6,true),(7,true),(8,true),(9,true),(10,true),(11,true),(12,true),(13,true)] (by kernel_rfl) (by kernel_rfl) ?_
    iterate 14
     refine gU (v:=?_) ?_ ?_;rotate_left
     .intro y t
      have k1:=(t.cell (p:=⟨g,10,none⟩) f8).trans c5;have k2:=(t.cell (p:=J A) e3).trans a5;have k3:=tO underlying126 underlying9 (Tryz.zeroBool y) (d4.block (t.block bm i6)) (bs d);go_simp;with_reducible rfl
     try simp only[V]
    refine iu rfl ?_;by_cases d2:d∈r.seen
    .have l1:rx (bs d) (r.seen.map bs)=true:=by rw[e9];exact aP d2
     have hb:iE B g 7 cc D (lX r d [F]) W iX W.drew.drew:=iE.bad (IH Hf d2) Hd.drew (by omega);have P:=hb;clear hb d2 c5 a5 h5 c7;unfold iX at P;have b7:=O P;clear P;go_wp2_with fail;refine(lm _).mono ?_;rintro e w ⟨rfl,rfl⟩;unfold iX;go_wp2_with fail;exact⟨rfl,b7⟩
    .have l1:rx (bs d) (r.seen.map bs)=false:=by rw[e9];exact aw d2
     have c4:=O d2;clear d2;go_wp2_with fail;refine(kW _).mono ?_;rintro e w ⟨rfl,rfl⟩;go_upto_region 5 with fail;refine gS 7 [(0,true),(1,true),(2,true),(3,true),(4,true),(5,true),(6,true)] (by kernel_rfl) (by kernel_rfl) ?_
     iterate 7
      refine gU (v:=?_) ?_ ?_;rotate_left
      .intro y t
       have k1:=(t.cell (p:=⟨g,10,none⟩) f8).trans c5;have k2:=(t.cell (p:=J A) e3).trans a5;go_simp;with_reducible rfl
      try simp only[V]
     refine iu rfl ?_
     have j7:A≠bm:=fun e=>by
      obtain⟨es,l6,hm,_⟩:=d4;rw[e,World.cell?,hm]at a5;cases a5
     have o1:g≠bm:=fun e=>by have:=H.bmB;omega
     refine qV underlying126 underlying9 rfl (.tmp 67) (.tmp 70) (.const (.bool true)) rfl (b:=bm) (ks:=r.seen.map bs) d4 (bs d) l1 rfl rfl rfl ?_;intro w k9 k5;obtain⟨j9,k6,f3⟩:=H.upd (by exact⟨rfl,rfl,rfl,aa _,fun _ _=>rfl⟩) k9 k5 n3;have e7:=O j9;have b8:=O k6;have X:=O f3;clear k9 k5 j9 k6 f3;have i5:jm w g r.x 7 f v ⟨some ⟨bb,0,none⟩,l0.length+1,cap⟩ k (.map (some bm)):=(b8 g f8 o1).trans HA;have g1:=X.size
     have f0:w.cell? (J A)=some (.string (bs d)):=by rw[<- a5];simp only[World.cell?,b8.out A e3 j7]
     have j5:w.cell? ⟨A,1,none⟩=some (.string (bs F)):=by rw[<- h5];simp only[World.cell?,b8.out A e3 j7]
     have T:A<w.heap.size:=ab e3 g1;have d8:=O (HT.below (X.mono i0));have j3:=O (Hg.of (X.mono i0) HT.glo)
     have l3:∀W',Below w w W'->lX r d [F]=none->iE B g 7 cc D (lX r d [F]) W iX W':=fun W' hb hr=>II hr (fun b h1 h2=>(hb.block b (ab h1 g1)).trans (b8 b h1 h2)) (Hd.mono hB|>.trans (X.trans (hb.mono (by omega)))) H.dbm (by omega)
     have g9:=O l3;clear i5 c7 c5 a5 h5 l3;by_cases hgl:d=lP
     .subst hgl
      have hr:lX r lP [F]=some ⟨{r.x with l:=l0++[⟨{y.s with i7:=bs F},y.zs⟩]},7,r.seen++[lP]⟩:=by rw[nS H.el Hf c4,aq rfl]
      obtain⟨j4,m6⟩:=e7.cell (show 13<22 by omega)
      change w.cell? ⟨bb,l0.length*22+13,none⟩=some (.string y.s.i7)at j4
      have Hr:=O hr;clear hr;go_wp2_with fail;go_end0;exact mf (xr Hr e8 HA HL H b8 X e7.map (off:=13) (by omega) rfl (by show(bs F).size<=_;rw[Tb];have:=Hl F (by simp);omega) hc) Hd (by omega)
     .have f6:(d==[103,108,97,115,115])=false:=by rw[ak];exact hgl
      obtain⟨o4,d0,F0,hO,d3,d1,h8⟩:=L4 d;obtain⟨ob,ol,o2,p1,l2,c9⟩:=d8.oth
      have j1:ob<w.heap.size:=by omega
      have n4:3<w.heap.size:=ab (ab (show 3<14 by decide) HT.glo) (by omega)
      have k8:∀y,Below w w y->(Instr.lookup 176 (.map (some ob)) (.string (bs d)) true).run prog y=.ok (.tuple #[.agg #[.string (bs o4),.int .i64 (d0:Int),F0],.bool (yE d).isSome]) y:=fun y t=>by
       rw[mM underlying176 underlying9 (Tryz.zeroPar y) (l2.block (t.block ob j1)) d true,c9 d,hO];rfl
      have c3:=O hgl;have g5:=O d3;have g4:=O d1;have m3:=O k8;clear hgl hO d3 d1 l2 c9 k8 f6;generalize(yE d).isSome=ok0 at*
      have f6:(d==[103,108,97,115,115])=false:=by rw[ak];exact c3
      go_upto_region 8 with fail;refine ic 9 [7] [(8,6,.cells #[.string {data:=#[]},oZ,.nilFunc] 116)] [(0,true),(1,true),(2,true),(3,true),(4,true),(5,true),(6,true),(7,true)] (by kernel_rfl) (by kernel_rfl) ⟨by simp,by simp,by(simp only[ct];exact⟨⟨by omega,_,rfl,rfl,rfl,fun _ _=>rfl⟩,fun _ h=>by cases h⟩)⟩ (fun _ _ _ _ _ h=>h) (fun _ _ o _ _ h=>by cases o<;>exact h) ?_
      iterate 7
       refine gZ (v:=?_) ?_ ?_;rotate_left
       .intro y t
        have k1:=(t.cell (p:=J 3) n4).trans o2;have k2:=(t.cell (p:=J A) T).trans f0;have k3:=m3 y (gJ (k:=1) t);go_simp;with_reducible rfl
       try simp only[V]
      iterate 1
       refine iy (v:=?_) ?_ ?_;rotate_left
       .intro y
        go_simp;with_reducible rfl
       try simp only[V]
      refine nV (l:=[_,_]) rfl (fun b1 w4 hC n5 i1=>?_);have d5:Below w w w4:=gJ (k:=1) n5
      cases hfi:kO.findIdx? (· ==d)with
      |none=>
       have n8:tk d= -1:=by unfold tk;rw[hfi];rfl
       cases ok0 with
       |false=>
        obtain⟨e4,i2⟩:=g4 rfl
        have l4:lX r d [F]=none:=by rw[nS H.el Hf c4,aj c3.out,L3 hfi e4 i2]
        have m4:=O l4;have p2:=O e4;have p3:=O i2;have j2:=O hfi;clear l4 e4 i2 hfi
        go_wp2_with(first
         |(refine mp i1 h8 rfl (.tmp 6) (.tmp 87) rfl rfl rfl ?_;intro w5 b6 R;have E:=R w w hC d5;have e0:=(E.cell (p:=J A) T).trans f0;have b4:=O b6;have C:=O E;clear b6 R E)
         |(refine(uc d N _ (d8.below (C.mono (by omega))) (by have:=C.size;omega)).mono ?_;rintro e w6 ⟨rfl,a7⟩;have a8:=O (I C a7);have e6:=O ((a7.block b1 (TK b4)).trans b4);clear a7))
        refine(lm _).mono ?_;rintro e w8 ⟨rfl,rfl⟩;have b3:=g9 _ a8 m4;unfold iX at b3⊢;have m1:=O b3;clear b3;go_wp2_with fail;exact⟨rfl,m1⟩
       |true=>
        obtain⟨_,m8,off,rfl,j⟩:=g5 rfl;have a4:=O j;have j2:=O hfi;clear j hfi
        go_wp2_with(first
         |(refine mp i1 h8 rfl (.tmp 6) (.tmp 87) rfl rfl rfl ?_;intro w5 b6 R;have E:=R w w hC d5;have e0:=(E.cell (p:=J A) T).trans f0;have b4:=O b6;have C:=O E;clear b6 R E)
         |(refine(uc d N _ (d8.below (C.mono (by omega))) (by have:=C.size;omega)).mono ?_;rintro e w6 ⟨rfl,a7⟩;have a8:=O (I C a7);have e6:=O ((a7.block b1 (TK b4)).trans b4);clear a7))
        refine(kW _).mono ?_;rintro e w8 ⟨rfl,rfl⟩;have j:=a4.out;have b2:=e6.out;have a3:=a8;go_upto_region 13 with fail;have e1:w6.cell? ⟨b1,1,none⟩=some (.int .i64 (d0:Int)):=gA b2 1;have e2:w6.cell? ⟨b1,2,none⟩=some (.func (.func m8) #[] #[]):=gA b2 2;have b0:=TK b2;have d9:w6.cell? ⟨A,1,none⟩=some (.string (bs F)):=(a3.cell (p:=⟨A,1,none⟩) T).trans j5;have d7:A<w6.heap.size:=ab T a3.size;refine gS 11 [(0,true),(1,true),(2,true),(4,true),(5,true),(6,true),(7,true),(8,true),(3,false),(9,false),(10,true)] (by kernel_rfl) (by kernel_rfl) ?_
        iterate 8
         refine gU (v:=?_) ?_ ?_;rotate_left
         .intro y t
          have k1:=(t.cell (p:=⟨b1,1,none⟩) b0).trans e1;have k2:=(t.cell (p:=⟨b1,2,none⟩) b0).trans e2;have k3:=(t.cell (p:=⟨A,1,none⟩) d7).trans d9;go_simp;with_reducible rfl
         try simp only[V]
        refine gP (fun KK a6=>?_);have d6:=j.ent;go_simp;clear d6;refine(j.call bb (l0.length*22) _).mono ?_;rintro e w7 ⟨rfl,rfl⟩;refine a6 _ _ (TH _ _) ?_;clear a6 KK;(try simp only[V]);refine gP (fun KK a6=>?_);go_simp;refine(mL F d0 _ (Hl F (by simp)) j.d18 (j3.below a3.drew)).mono ?_;rintro e w7 ⟨M,c1⟩;have L:Below w w w7:=a3.drew.trans (c1.mono a3.size)
        cases Q:lp F d0 with
        |none=>
         unfold kX at M;rw[Q]at M;subst M;have b3:=g9 w7 L (by rw[nS H.el Hf c4,aj c3.out,j.dig];show(lp F d0).map _=none;rw[Q];rfl);unfold iX at b3⊢;exact⟨rfl,b3⟩
        |some z=>
         unfold kX at M;rw[Q]at M;subst M;refine a6 _ _ c1 ?_;clear a6 KK;try simp only[V]
         have hr:lX r d [F]=some ⟨{r.x with l:=l0++[⟨Ac y.s d z,y.zs⟩]},7,r.seen++[d]⟩:=by
          rw[nS H.el Hf c4,aj c3.out,j.dig]
          show(lp F d0).map _=_
          rw[Q];rfl
         have b9:=e7.go L;obtain⟨h4,m7⟩:=b9.cell j.lt;obtain⟨u7,e5⟩:∃u,(gX y.s q.a q.n q.c)[off]? =some u:=⟨_,ae (by show off<22;exact j.lt)⟩;rw[e5]at h4;have Hr:=O hr;have g8:=O b9;have a9:=O L;have a4:=O j;clear hr b9 L j e5 Q c1 e1 e2 b2 d9
         iterate 1
          refine gU (v:=?_) ?_ ?_;rotate_left
          .intro y t
           skip;go_simp;with_reducible rfl
          try simp only[V]
         refine iu rfl ?_;go_wp2_with fail;go_end0;exact mf (xr Hr e8 HA HL H (fun b h1 h2=>(a9.block b (ab h1 g1)).trans (b8 b h1 h2)) (X.trans (a9.mono (by omega))) g8.map a4.lt (a4.set _ _ _ _ _) (by rw[a4.i7];exact H.i7) hc) Hd (by omega)
      |some i=>
       have n8:tk d=(i:Int):=by unfold tk;rw[hfi];rfl
       have i8:i<17:=qN hfi;have a4:=O (L0 hfi);have j2:=O hfi;clear hfi
       go_wp2_with(first
        |(refine mp i1 h8 rfl (.tmp 6) (.tmp 87) rfl rfl rfl ?_;intro w5 b6 R;have E:=R w w hC d5;have e0:=(E.cell (p:=J A) T).trans f0;have b4:=O b6;have C:=O E;clear b6 R E)
        |(refine(uc d N _ (d8.below (C.mono (by omega))) (by have:=C.size;omega)).mono ?_;rintro e w6 ⟨rfl,a7⟩;have a8:=O (I C a7);have e6:=O ((a7.block b1 (TK b4)).trans b4);clear a7)
        |(refine qe (.tmp 96) rfl rfl rfl ((d8.below (a8.mono (by omega))).par i i8) ?_)
        |(refine mp e6 rfl rfl (.tmp 6) (.tmp 97) rfl rfl rfl ?_;intro w8 k0 f4;have f1:=f4 w w hC a8;have l8:=O k0;have i3:=O f1;clear k0 f4 f1))
       refine(kW _).mono ?_;rintro e w9 ⟨rfl,rfl⟩;have j:=a4.out;have b2:=l8.out;have a3:=i3;go_upto_region 13 with fail;have e1:w8.cell? ⟨b1,1,none⟩=some (.int .i64 ((oo (i+1)):Int)):=gA b2 1;have e2:w8.cell? ⟨b1,2,none⟩=some (.func (.func (QB i)) #[] #[]):=gA b2 2;have b0:=TK b2;have d9:w8.cell? ⟨A,1,none⟩=some (.string (bs F)):=(a3.cell (p:=⟨A,1,none⟩) T).trans j5;have d7:A<w8.heap.size:=ab T a3.size;refine gS 11 [(0,true),(1,true),(2,true),(4,true),(5,true),(6,true),(7,true),(8,true),(3,false),(9,false),(10,true)] (by kernel_rfl) (by kernel_rfl) ?_
       iterate 8
        refine gU (v:=?_) ?_ ?_;rotate_left
        .intro y t
         have k1:=(t.cell (p:=⟨b1,1,none⟩) b0).trans e1;have k2:=(t.cell (p:=⟨b1,2,none⟩) b0).trans e2;have k3:=(t.cell (p:=⟨A,1,none⟩) d7).trans d9;go_simp;with_reducible rfl
        try simp only[V]
       refine gP (fun KK a6=>?_);have d6:=j.ent;go_simp;clear d6;refine(j.call bb (l0.length*22) _).mono ?_;rintro e w7 ⟨rfl,rfl⟩;refine a6 _ _ (TH _ _) ?_;clear a6 KK;(try simp only[V]);refine gP (fun KK a6=>?_);go_simp;refine(mL F (oo (i+1)) _ (Hl F (by simp)) j.d18 (j3.below a3.drew)).mono ?_;rintro e w7 ⟨M,c1⟩;have L:Below w w w7:=a3.drew.trans (c1.mono a3.size)
       cases Q:lp F (oo (i+1))with
       |none=>
        unfold kX at M;rw[Q]at M;subst M;have b3:=g9 w7 L (by rw[nS H.el Hf c4,aj c3.out,j.dig];show(lp F (oo (i+1))).map _=none;rw[Q];rfl);unfold iX at b3⊢;exact⟨rfl,b3⟩
       |some z=>
        unfold kX at M;rw[Q]at M;subst M;refine a6 _ _ c1 ?_;clear a6 KK;try simp only[V]
        have hr:lX r d [F]=some ⟨{r.x with l:=l0++[⟨Ac y.s d z,y.zs⟩]},7,r.seen++[d]⟩:=by
         rw[nS H.el Hf c4,aj c3.out,j.dig]
         show(lp F (oo (i+1))).map _=_
         rw[Q];rfl
        have b9:=e7.go L;obtain⟨h4,m7⟩:=b9.cell j.lt;obtain⟨u7,e5⟩:∃u,(gX y.s q.a q.n q.c)[Iv i]? =some u:=⟨_,ae (by show Iv i<22;exact j.lt)⟩;rw[e5]at h4;have Hr:=O hr;have g8:=O b9;have a9:=O L;have a4:=O j;clear hr b9 L j e5 Q c1 e1 e2 b2 d9
        iterate 1
         refine gU (v:=?_) ?_ ?_;rotate_left
         .intro y t
          skip;go_simp;with_reducible rfl
         try simp only[V]
        refine iu rfl ?_;go_wp2_with fail;go_end0;exact mf (xr Hr e8 HA HL H (fun b h1 h2=>(a9.block b (ab h1 g1)).trans (b8 b h1 h2)) (X.trans (a9.mono (by omega))) g8.map a4.lt (a4.set _ _ _ _ _) (by rw[a4.i7];exact H.i7) hc) Hd (by omega)
   .have h0:((ws.length:Int)+1==2)=false:=by rw[ak];omega
    have hb:iE B g 7 cc D (lX r d ws) W iX W.drew.drew:=iE.bad (LR Hf h1) Hd.drew (by omega);have P:=hb;clear hb h1 c5 a5 c7;unfold iX at P;have b7:=O P;clear P;refine gS 14 [(0,true),(1,true),(2,true),(3,true),(4,true),(5,true),(6,true),(7,true),(8,true),(9,true),(10,true),(11,true),(12,true),(13,true)] (by kernel_rfl) (by kernel_rfl) ?_
    iterate 4
     refine gU (v:=?_) ?_ ?_;rotate_left
     .intro y t
      skip;go_simp;with_reducible rfl
     try simp only[V]
    iterate 9
     refine Gq rfl (fun _ _ _ h=>h) (by rfl) ?_;try simp only[V]
    iterate 1
     refine gU (v:=?_) ?_ ?_;rotate_left
     .intro y t
      skip;go_simp;with_reducible rfl
     try simp only[V]
    refine iu rfl ?_;go_wp2_with fail;refine(lm _).mono ?_;rintro e w ⟨rfl,rfl⟩;unfold iX;go_wp2_with fail;exact⟨rfl,b7⟩
 .omega
abbrev DO:=List UInt8×Nat×Int
def FP(x:DO):List UInt8:=if x.2.2=0 then[]else iF [x.1,iz x.2.2 x.2.1]
def rS(xs:List DO):List UInt8:=(xs.map FP).flatten
def PZ(B bw:Nat)(w:World)(k:Nat):Prop:=k<B\/ ∃cs T fr,w.heap[k]? =some (.cells cs T fr)/\T≠5/\k≠bw
def PZ.block{B bw k w w'}(h:PZ B bw w k)(a:Below B w w')(b:kY bw w w'):w'.heap[k]? =w.heap[k]? :=by
 obtain h|⟨cs,T,fr,h1,h2,h3⟩:=h
 .exact a.block k h
 .exact(b k cs T fr h1 h2 h3).trans h1.symm
def FQ(w:World)(c b o:Nat)(x:DO):Prop:=∃a k,w.rangeAt b o [.string (bs x.1),.int .i64 (x.2.1:Int),.func (.func a) #[] #[]]/\(∀b k0 w,Calls prog a #[.pointer (some ⟨b,k0,none⟩)] w fun e w'=>e=.returned (.pointer (some ⟨b,k0+k,none⟩))/\w=w')/\
 (∀args w,(callFunc a args).run prog w=.ok (.enter a args) w)/\w.cell? ⟨c,k,none⟩=some (.int .i64 x.2.2)/\x.2.1<=18/\ -9223372036854775808<=x.2.2/\x.2.2<=9223372036854775807
def FQ.go{w w' c b o x}(h:FQ w c b o x)(h1:w'.heap[b]? =w.heap[b]?)(h2:w'.heap[c]? =w.heap[c]?):FQ w' c b o x:=by
 obtain⟨d,k,f,g,i,l,m⟩:=h;exact⟨d,k,fun j v e=>(World.cell?_of_block (a:=⟨b,o+j,none⟩) h1).trans (f j v e),g,i,(World.cell?_of_block (a:=⟨c,k,none⟩) h2).trans l,m⟩
def xu{xs:List DO}{k x}(h:xs[k]? =some x):rS (xs.take (k+1))=rS (xs.take k)++FP x:=by
 unfold rS;rw[mn h,aT,cG];simp
def P4(xs k):(rS (xs.take k)).length<=(rS xs).length:=by
 have:rS xs=rS (xs.take k)++rS (xs.drop k):=by
  unfold rS;rw[<- cG,<- aT,cA]
 rw[this,al];omega
def L7(B bw:Nat)(l:List UInt8)(w:World)(e:Ending)(w':World):Prop:=e=.returned (.tuple #[])/\Lib.IsBuilder 108 5 B bw (Lib.byteCells l) w'/\Below B w w'/\kY bw w w'
def pJ(xs b o n c H bw B l w)(h:∀i x,xs[i]? =some x->FQ w H b (o+i*3) x)(hn:xs.length=n)(c3:n<=c)(c2:n<=1000)(a8:PZ B bw w b)(a7:PZ B bw w H)(hb:Lib.IsBuilder 108 5 B bw (Lib.byteCells l) w)(hB:B<=w.heap.size)(hl:l.length+(rS xs).length<=1000000)(hg:GW w)(b5:14<=B):
 Calls prog 81 #[U bw,U H,Z (some ⟨b,o,none⟩) n c] w (L7 B bw (l++rS xs) w):=by
 have Hx:=O h;have b3:=O a8;have b2:=O a7;have Hb:=O hb;have Hl:=O hl;have Hg:=O hg;have Hn:=O hn;clear h a8 a7 hb hl hg hn;go_enter func81,ntmps81;go_wp2_with fail
 go_loopw [11] (fun iv wr=>∃k:Nat,k<=n/\iv=.int .i64 (k:Int)/\Lib.IsBuilder 108 5 B bw (Lib.byteCells (l++rS (xs.take k))) wr/\Below B w wr/\kY bw w wr) (fun iv _=>n-(intOf iv).toNat)
 case atStart=>exact⟨0,aA _,rfl,by simpa[rS]using Hb.out,TH _ _,kY.refl _ _⟩
 case round=>
  obtain⟨k,hk,rfl,a4,a3,a5⟩:=hrel;have M:=O a4;have f:=O a3;have r:=O a5;clear a4 a3 a5;by_cases b6:k<n
  .obtain⟨x,h⟩:∃x,xs[k]? =some x:=⟨xs[k]'(by rw[Hn];exact b6),ae _⟩
   have a0:=(Hx k x h).go (b3.block f r) (b2.block f r);obtain⟨nm,d,z⟩:=x;obtain⟨c1,kk,g,m,X,hz,hd,b7,b8⟩:=a0;have N:=O h;have s:=O g;have F:=O m;clear h g m;have c0:=oV hz
   go_wp2_with(first
    |(refine qe (.tmp 13) rfl rfl rfl s ?_)
    |(refine mp (TL wr _) rfl rfl (.tmp 7) (.tmp 14) rfl rfl rfl ?_;intro S j C;have D:=C wr wr (aa _) ((TH _ _).alloc (aa _) _);have K:=O j;have a:=O D;have e2:=gA j 2;clear j C D))
   refine(F H 0 _).mono ?_;rintro e w6 ⟨rfl,rfl⟩;rw[aV];clear X e2;have b9:S.cell? ⟨H,kk,none⟩=some (.int .i64 z):=(a.cell (p:=⟨H,kk,none⟩) c0).trans hz;clear hz;have R:=P4 xs (k+1);rw[xu N,al]at R;have b1:=O R;clear R;by_cases u:z=0
   .subst u
    have h1:FP (nm,d,(0:Int))=[]:=by unfold FP;rw[aq rfl]
    have W:=O h1;clear h1;go_wp2_with fail
    go_roundw
    case rel=>exact⟨k+1,by omega,by go_num,by rw[xu N,W,bG];exact iq M a,f.trans (a.mono (af hB f.size)),r.trans (kY.below a)⟩
    case measure=>simp[intOf];omega
   .have h1:FP (nm,d,z)=iF [nm,iz z d]:=by unfold FP;rw[aj u]
    have c4:(z !=0)=true:=by rw[fk];exact u
    have c5:(z==0)=false:=by rw[ak];exact u
    have W:=O h1;clear h1;have e0:=gA K 0;have e1:=gA K 1;have a6:=TK K
    change S.cell? (J (wr.heap.size))=some (.string (bs nm))at e0
    change S.cell? ⟨wr.heap.size,1,none⟩=some (.int .i64 (d:Int))at e1
    clear u;go_wp2_with fail;go_upto_region 5 with fail;refine gS 8 [(0,true),(1,true),(2,true),(3,true),(4,true),(5,true),(6,false),(7,false)] (by kernel_rfl) (by kernel_rfl) ?_
    iterate 6
     refine gU (v:=?_) ?_ ?_;rotate_left
     .intro y hy
      have k1:=(hy.cell (p:=J (wr.heap.size)) a6).trans e0;have k2:=(hy.cell (p:=⟨wr.heap.size,1,none⟩) a6).trans e1;go_simp;with_reducible rfl
     try simp only[V]
    refine gP (fun KK t=>?_);go_simp;have j:Below wr wr S.drew:=a.drew;refine(js z d S.drew b7 b8 hd ((Hg.of f b5).below j)).mono ?_;rintro e T ⟨rfl,P⟩;refine t _ _ P ?_;clear t KK;(try simp only[V]);have q:Below wr wr T:=j.trans (P.mono a.size);refine gP (fun KK t=>?_);go_simp;refine t _ _ ((TH _ _).alloc (aa _) _) ?_;clear t KK;(try simp only[V]);refine iu rfl ?_;have Q:Below wr wr (T.alloc (.cells #[.string (bs nm),.string (bs (iz z d))] 9)):=q.alloc q.size _;have E:=TL T (.cells #[.string (bs nm),.string (bs (iz z d))] 9)
    have b4:B<=(T.alloc (.cells #[.string (bs nm),.string (bs (iz z d))] 9)).heap.size:=by have:=Q.size;have:=f.size;omega
    have L:=O Q;have A:=O E;clear Q E q P j e0 e1 b9;go_wp2_with fail;refine(Cv [nm,iz z d] T 0 2 B bw (l++rS (xs.take k)) _ (fun i x h=>?_) (by simp) (by simp) (by simp) (by have:=b1.out;have:=Hl.out;rw[W]at*;rw[al];omega) (iq M L) b4).mono ?_
    .match i,h with
     |0,h=>cases h;exact gA A 0
     |1,h=>cases h;exact gA A 1
    .rintro e w9 ⟨rfl,h9,a1,a2⟩
     have H9:=O h9;have a9:=O a1;have b0:=O a2;clear h9 a1 a2;go_wp2_with fail
     go_roundw
     case rel=>exact⟨k+1,by omega,by go_num,by rw[xu N,W,<- aC];exact H9,f.trans ((L.mono (af hB f.size)).trans a9),r.trans ((kY.below L).trans b0)⟩
     case measure=>simp[intOf];omega
  .obtain rfl:k=n:=by omega
   go_wp2_with fail;go_end0;have h1:=M.out;rw[aM (by rw[Hn];exact aa _)]at h1;exact⟨rfl,h1,f,r⟩
def mh(r:jL)(a:List UInt8)(ws:List (List UInt8)):Option jL:=(ou r.x.cf fun c=>sP c (a::ws)).map fun cf=>⟨{r.x with cf:=cf},8,r.seen⟩
def FSx{r a ws}(h:ws.length≠3):mh r a ws=none:=by
 have b:∀c,sP c (a::ws)=none:=fun c=>by
  match ws,h with
  |[],_=>rfl
  |[_],_=>rfl
  |[_,_],_=>rfl
  |[_,_,_],h=>simp at h
  |_::_::_::_::_,_=>rfl
 unfold mh ou
 cases r.x.cf.getLast? with
 |none=>rfl
 |some y=>simp[b]
def Uo{r:jL}{l0:List jd}{y:jd}(c:r.x.cf=l0++[y])(b a p v:List UInt8):mh r b [a,p,v]=match rD p with
 |none=>none
 |some q=>match lp a 0 with
  |none=>none
  |some i=>(lp v (oo q)).map fun n=>⟨{r.x with cf:=l0++[⟨y.nm,y.zs++[i,(q:Int),n]⟩]},8,r.seen⟩:=by
 unfold mh;rw[c,qf];unfold sP;simp only
 cases rD p with
 |none=>rfl
 |some q=>
  cases lp a 0 with
  |none=>rfl
  |some i=>cases hv:lp v (oo q) <;>simp[hv]
def FT{B g cc A n c N}{D:Nat->Prop}{r W L}{ws}(h:vM B g 8 cc D r W)(hat:r.at_=8)(hw:ua W (J A) n c (L::ws) W)(hl:∀s∈L::ws,s.length<=100000)(hn:ws.length<=100000)(hc:cc<=100001)(hB:B<=W.heap.size)(hg:GW W)(hT:TW N W)(e6:N<=B):
 Calls prog 92 #[U g,Z (J A) n c] W (iE B g 8 cc D (mh r L ws) W):=by
 obtain⟨f,v,s,k,m,hA,hL⟩:=h;have g5:=hL.gB
 obtain ⟨h7,_⟩|⟨_,l0,y,css,q,H,cap,hS⟩|⟨h7,_⟩:=hL.cf.2
 .omega
 .have e1:=hS.ep
  subst e1;have c8:W.cell? ⟨g,8,none⟩=some (.slice (J H) (l0.length+1) cap):=(hA.cell 8).1;have e9:g<W.heap.size:=TK hA
  have f5:l0.length+1<=cap:=by
   obtain ⟨e,_⟩|⟨g',f2,g0,e,_,_,h3,_⟩:=hS.row.2
   .cases e
   .cases e;exact h3
  have g6:l0.length<=100001:=by have:=hL.cf.1;have:l0.length+1<=cc:=this;omega
  have f0:n=ws.length+1:=by have:=hw.1;simp at this;omega
  subst f0;have g4:ws.length+1<=c:=hw.2.1
  have c5:A<W.heap.size:=by
   obtain⟨g',off,e,h3,_⟩:=hw.2.2 (by omega);cases e;exact h3
  have c7:∀i x,(L::ws)[i]? =some x->W.cell? ⟨A,i,none⟩=some (.string (bs x)):=fun i x hx=>by
   obtain⟨g',off,e,_,h3⟩:=hw.2.2 (by omega);cases e;have:=h3 i x hx;rwa[aV]at this
  have HA:=O hA;have HL:=O hL;have HS:=O hS;have Hl:=O hl;have Hg:=O hg;have HT:=O hT;have Hn:=O hn;have d5:=O hat;have X:=O c7;clear hA hL hS hl hg hT hw hn hat c7;go_enter func92,ntmps92;by_cases h1:ws.length=3
  .obtain⟨a,p,F,rfl⟩:∃a p F,ws=[a,p,F]:=by
    match ws,h1 with
    |[x,y,z],_=>exact⟨x,y,z,rfl⟩
   have e2:=X 2 p rfl
   cases hfi:kO.findIdx? (· ==p)with
   |none=>
    have e7:tk p= -1:=by unfold tk;rw[hfi];rfl
    have c6:mh r L [a,p,F]=none:=by rw[Uo HS.el,yo hfi]
    have e0:=O c6;have f8:=O hfi;clear c6 hfi;go_wp2_with fail;refine(kW _).mono ?_;rintro e w3 ⟨rfl,rfl⟩
    go_wp2_with(refine(uc p N _ HT (by omega)).mono ?_;rintro e l ⟨rfl,R⟩;have b:=O R;clear R)
    refine(lm _).mono ?_;rintro e w8 ⟨rfl,rfl⟩;have t:iE B g 8 cc D (mh r L [a,p,F]) W iX _:=iE.bad e0 b (by omega);unfold iX at t⊢;have d8:=O t;clear t;go_wp2_with fail;exact⟨rfl,d8⟩
   |some i=>
    have e7:tk p=(i:Int):=by unfold tk;rw[hfi];rfl
    have b3:i<17:=qN hfi;have M:=O (ug hfi);clear hfi;go_wp2_with fail;refine(kW _).mono ?_;rintro e w3 ⟨rfl,rfl⟩
    go_wp2_with(refine(uc p N _ HT (by omega)).mono ?_;rintro e l ⟨rfl,R⟩;have b:=O R;clear R)
    refine(kW _).mono ?_;rintro e w8 ⟨rfl,rfl⟩;clear e2;have g7:=b.size;have b9:l.cell? ⟨g,8,none⟩=some (.slice (J H) (l0.length+1) cap):=(b.cell (p:=⟨g,8,none⟩) e9).trans c8
    have b4:g<l.heap.size:=by omega
    clear c8;go_upto_region 3 with fail;have a5:IntKind.i64.wrap (l0.length:Int)=(l0.length:Int):=TM _ (by omega);refine gS 13 [(0,true),(1,true),(2,true),(3,true),(4,true),(5,true),(6,true),(7,true),(8,true),(9,true),(10,true),(11,true),(12,true)] (by kernel_rfl) (by kernel_rfl) ?_
    iterate 11
     refine gU (v:=?_) ?_ ?_;rotate_left
     .intro y T
      have k1:=(T.cell (p:=⟨g,8,none⟩) b4).trans b9;go_simp;with_reducible rfl
     try simp only[V]
    iterate 2
     refine gU (v:=?_) ?_ ?_;rotate_left
     .intro y T
      go_simp
      try rw[a5]
      try rw[aq (show(l0.length:Int) <(l0.length:Int)+1 by omega)]
      try with_reducible rfl
     try simp only[V]
    refine iu rfl ?_;clear b9;go_upto_region 4 with fail;have a0:=HS.go b;have f4:=a0.bbB
    have f6:A<l.heap.size:=by omega
    have c0:l.cell? ⟨A,1,none⟩=some (.string (bs a)):=(b.cell (p:=⟨A,1,none⟩) c5).trans (X 1 a rfl);have c1:l.cell? ⟨A,3,none⟩=some (.string (bs F)):=(b.cell (p:=⟨A,3,none⟩) c5).trans (X 3 F rfl);have c4:=HT.below (b.mono (by omega));have g3:0<l.heap.size:=ab (ab (show 0<14 by decide) HT.glo) (by omega);have p1:l.cell? ⟨0,i*3+1,none⟩=some (.int .i64 (oo (i+1):Int)):=c4.par i b3 1 _ rfl;obtain⟨cg,fg⟩:=a0.cell (show 1<2 by omega)
    change l.cell? ⟨H,l0.length*2+1,none⟩=some (.slice q.a q.n q.c)at cg
    have b2:=yP (i+1);generalize hdg:oo (i+1)=dg at*;have b7:=O hdg;have d4:=O a0;have b8:=O (Hg.below b);clear hdg a0 c4;obtain⟨qa,qn,qc⟩:=q
    change l.cell? ⟨H,l0.length*2+1,none⟩=some (.slice qa qn qc)at cg
    have d0:(i:Int) <17:=by omega
    have g8:IntKind.i64.wrap ((i:Int)+1)=(i:Int)+1:=TM _ (by omega);refine kC (S:=fun x=>x=H\/x=A\/x=0) 22 [(0,true),(1,true),(2,true),(3,true),(4,true),(5,true),(6,true),(7,true),(9,true),(10,true),(11,true),(12,true),(13,true),(14,true),(15,true),(16,true),(17,true),(8,false),(18,false),(19,true),(20,false),(21,false)] (by kernel_rfl) (by kernel_rfl) ?_
    iterate 17
     refine kQ (v:=?_) ?_ ?_;rotate_left
     .intro y T
      have k1:=(T.cell (p:=⟨H,l0.length*2+1,none⟩) (VR rfl)).trans cg;have k2:=(T.cell (p:=⟨A,1,none⟩) (VS (VR rfl))).trans c0;have k3:=(T.cell (p:=⟨A,3,none⟩) (VS (VR rfl))).trans c1;have k4:=(T.cell (p:=⟨0,i*3+1,none⟩) (VS (VS rfl))).trans p1;go_simp;with_reducible rfl
     try simp only[V]
    have c2:∀w w':World,l.heap.size<=w.heap.size->Below w w w'->gN (fun x=>x=H\/x=A\/x=0) w w':=fun w w' h1 h2 x hx=>h2.block x (by obtain rfl|rfl|rfl:=hx<;>omega)
    have a6:=O c2;clear c2;refine iT (fun KK Q=>?_);go_simp;refine(mL a 0 _ (Hl a (by simp)) (by omega) (b8.below (TH _ _).drew.drew)).mono ?_;rintro e w9 ⟨u,a9⟩;have o:Below l l w9:=(TH l l).drew.drew.trans a9
    cases hva:lp a 0 with
    |none=>
     unfold kX at u;rw[hva]at u;subst u;have t:iE B g 8 cc D (mh r L [a,p,F]) W iX w9:=iE.bad (by rw[Uo HS.el,M];simp only[hva]) (I b o) (by omega);unfold iX at t⊢;exact⟨rfl,t⟩
    |some z0=>
     unfold kX at u;rw[hva]at u;subst u;refine Q _ _ (a6 _ _ (aa _) a9) ?_;clear Q KK;(try simp only[V]);refine iT (fun KK Q=>?_);go_simp;refine(mL F dg w9 (Hl F (by simp)) b2 (b8.below o)).mono ?_;rintro e E ⟨u,P⟩;have d:Below l l E:=I o P
     cases hvv:lp F dg with
     |none=>
      unfold kX at u;rw[hvv]at u;subst u;have t:iE B g 8 cc D (mh r L [a,p,F]) W iX E:=iE.bad (by rw[Uo HS.el,M];simp only[hva,b7.out,hvv];rfl) (I b d) (by omega);unfold iX at t⊢;exact⟨rfl,t⟩
     |some z1=>
      unfold kX at u;rw[hvv]at u;subst u;refine Q _ _ (a6 _ _ o.size P) ?_;clear Q KK;try simp only[V]
      have hr:mh r L [a,p,F]=some ⟨{r.x with cf:=l0++[⟨y.nm,y.zs++[z0,((i+1:Nat):Int),z1]⟩]},8,r.seen⟩:=by rw[Uo HS.el,M];simp only[hva,b7.out,hvv];rfl
      have Hr:=O hr;clear hr hva hvv
      iterate 1
       refine kQ (v:=?_) ?_ ?_;rotate_left
       .intro y T
        skip;go_simp;with_reducible rfl
       try simp only[V]
      refine iT (fun K hK=>?_);go_simp;refine hK _ _ (a6 _ _ d.size ((TH _ _).alloc (aa _) _)) ?_;clear hK K;(try simp only[V]);have j:Below l l (E.alloc (.cells [Value.int .i64 z0,.int .i64 ((i:Int)+1),z1].toArray 72)):=d.trans ((TH E E).alloc (aa _) _|>.mono d.size);have a8:=HA.go (I b j);have c3:=HL.go (I b j);have C:=d4.go j;have f7:=TK a8;have b1:=C.bbB
      have e5:B<=(E.alloc (.cells [Value.int .i64 z0,.int .i64 ((i:Int)+1),z1].toArray 72)).heap.size:=by have:=(I b j).size;omega
      have f1:=C.qn
      change qn<=cc at f1
      refine iT (fun K hK=>?_);refine nR underlying73 Tryz.infoChange3 rfl (by omega) (by omega) _ _ rfl B _ (.slice qa qn qc) qn E _ [z0,.int .i64 ((i:Int)+1),z1] rfl C.coat.row (TL E _) rfl rfl (by simp[Value.oneCell']) (by omega) e5 ?_;intro g2 f3 c9 a3 a1 e8;have a2:(Value.slice qa qn qc).ownBlock≠some H:=C.ne;have b5:(Value.slice qa qn qc).ownBlock≠some A:=HS.coat.word (by omega) (X 0 L rfl)
      have b6:(Value.slice qa qn qc).ownBlock≠some 0:=fun e=>by
       have h9:=(gT C.coat.row e).1;have e3:=HT.glo
       have e4:0<14:=by decide
       exact absurd (ab (ab e4 e3) (af e6 h9)) (Nat.lt_irrefl _)
      refine hK _ _ (fun x hx=>a1.kept x (by have:=j.size;obtain rfl|rfl|rfl:=hx<;>omega) (by obtain rfl|rfl|rfl:=hx;exact a2;exact b5;exact b6)) ?_;clear hK K
      have a4:c9.cell? ⟨H,l0.length*2+1,none⟩=some (.slice qa qn qc)/\c9.frozen? ⟨H,l0.length*2+1,none⟩=false:=by
       have hk:=a1.kept H b1.2 a2;obtain⟨q1,q2⟩:=C.cell (show 1<2 by omega);exact⟨by simp only[World.cell?,hk];exact q1,by simp only[World.frozen?,hk];exact q2⟩
      obtain⟨f9,g1⟩:=a4;have d1:=O a8;have d2:=O c3;have d3:=O C;have d7:=O (I b j);have b0:=O a3;have d9:=O a1;clear a8 c3 C j a3 a1 cg fg c0 c1 p1 d P o a9;(try simp only[V]);refine nK rfl ?_;go_wp2_with fail;go_end0;exact DJ Hr d5 d7 d1 d2 d3 b0 d9 e8 hB hc
  .have h0:((ws.length:Int)+1==4)=false:=by rw[ak];omega
   have hb:iE B g 8 cc D (mh r L ws) W iX W:=iE.bad (FSx h1) (TH _ _) (by omega);have a7:=hb;clear hb h1 c8;unfold iX at a7;have d6:=O a7;clear a7;go_wp2_with fail;refine(lm _).mono ?_;rintro e w3 ⟨rfl,rfl⟩;unfold iX;go_wp2_with fail;exact⟨rfl,d6⟩
 .omega
def pm{lo hi l}(h:(!jr lo hi l)=true):∀x∈l,lo<=x/\x<=hi:=by
 intro x a;unfold jr at h;rw[di,du]at h;have:=h x a;simp at this;omega
def L8{s zs n}(h:oA s zs n=true):uU s=true/\uV s=true/\uW s=true:=by
 have h1:uX s zs n=true:=by unfold oA at h;simp at h;exact h.1
 exact⟨an.1 h1 1 (by simp),an.1 h1 2 (by simp),an.1 h1 3 (by simp)⟩
def uG{s zs n}(h:oA s zs n=true):(∀p:Int,-1000000000<=s.get p/\s.get p<=1000000000)/\(0<=s.p8/\s.p8<=1000000000)/\(-3<=s.order/\s.order<=3):=by
 obtain⟨h2,h3,a⟩:=L8 h;unfold uU at h2;unfold uV at h3;unfold uW at a;simp only[am]at h2 h3 a;have a1:=pm h2.1.1;have a2:=pm h2.1.2;have a3:=pm h2.2;have b1:=pm h3.1;have b2:=pm h3.2;have c1:=pm a.1;have c2:=pm a.2;simp only[ct,bi,false_implies,implies_true,and_true]at a1 a2 a3 b1 b2 c1 c2;refine⟨fun p=>?_,by omega,by omega⟩;unfold gW.get
 repeat' split
 all_goals omega
def wH{s zs n}(h:oA s zs n=true){k}(a:k<n):(0<=zs.getD (k*3) 0/\zs.getD (k*3) 0<=40000000)/\(0<=zs.getD (k*3+1) 0/\zs.getD (k*3+1) 0<=1000)/\(0<=zs.getD (k*3+2) 0/\zs.getD (k*3+2) 0<=1000):=by
 have h1:mP zs k=true:=by
  unfold oA at h;rw[am]at h;exact an.1 h.2 k (aJ.2 a)
 unfold mP oH at h1;simp only[am]at h1;have a1:=pm h1.1.1 _ (aK.2 rfl);have a2:=pm h1.1.2 _ (aK.2 rfl);have a3:=pm h1.2 _ (aK.2 rfl);omega
def qk(f:Nat->List UInt8)(k):((List.range (k+1)).map f).flatten=((List.range k).map f).flatten++f k:=by
 rw[bV,aT,cG];simp
def rT(f:Nat->List UInt8){k}:∀{n:Nat},k<n->((List.range k).map f).flatten.length+(f k).length<=((List.range n).map f).flatten.length
 |0,h=>by omega
 |n+1,h=>by
  rw[qk,al];by_cases e:k=n
  .subst e;omega
  .have:=rT f (k:=k) (n:=n) (by omega)
   omega
def Cx{g}(h:kb g=[]):g={data:=#[]}:=by
 obtain⟨d⟩:=g;have:d.toList=[]:=h;rw[Array.toList_eq_nil_iff.1 this]
def qO(g):bs (kb g)=g:=by
 obtain⟨d⟩:=g;rfl
def Bq(s:gW)(a n:Nat):List DO:=(List.range n).map fun i=>(km (a+i),oo (a+i),s.get ((a+i:Nat):Int))
def rU(s a n):rS (Bq s a n)=ub s a n:=by
 unfold rS Bq ub;rw[dD];rfl
def xv{N w g s a n c}(v:TW N w)(u:Y w g s a n c){zs m}(z:oA s zs m=true)(d k)(h1:1<=d)(h2:d+k<=18):∀i x,(Bq s d k)[i]? =some x->FQ w g 0 ((d-1)*3+i*3) x:=by
 intro i x e;unfold Bq at e;rw[aR]at e
 cases hi:(List.range k)[i]? with
 |none=>rw[hi]at e;cases e
 |some j=>
  obtain⟨h,f⟩:=TG.1 hi;rw[dt]at h;rw[List.getElem_range]at f;subst f;rw[hi]at e;cases e;have A:=(uG z).1 ((d+i:Nat):Int);have l:=v.par (d-1+i) (by omega);have y:=u.getP (p:=((d+i:Nat):Int)) (by omega) (by omega);refine⟨QB (d-1+i),Iv (d-1+i),?_,fun b k0 w=>JN _ (by omega) b k0 w,Cw _ (by omega),?_,yP _,by show _<=s.get _;omega,by show s.get _<=_;omega⟩
  .have o:(d-1)*3+i*3=(d-1+i)*3:=by rw[dB]
   have q:km (d+i)=kO.getD (d-1+i) []:=by unfold km;rw[show d+i-1=d-1+i by omega]
   have r:d-1+i+1=d+i:=by omega
   rw[o];rw[r]at l
   show w.rangeAt _ _ [.string (bs (km (d+i))),.int .i64 (oo (d+i):Int),_]
   rw[q];exact l
  .rw[Iw _ (by omega)]
   have t:((d-1+i:Nat):Int)+1=((d+i:Nat):Int):=by omega
   rw[t];exact y
