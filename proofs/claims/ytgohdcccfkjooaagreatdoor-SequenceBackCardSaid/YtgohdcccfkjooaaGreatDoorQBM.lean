import Derived.Test.YtgohdcccfkjooaaGreatDoorQBL
import Derived.Test.YtgohdcccfkjooaaGreatDoorQBE
namespace Go.Proofs.YtgohdcccfkjooaaGreatDoor
set_option linter.all false
set_option maxRecDepth 100000
set_option maxHeartbeats 12800000
open Go.Proofs.Tryz Go.RowKit
structure AB (N:Nat) (w w':World):Prop where
 f:w'.heap[N+1]? =some (.cells #[oZ,oZ,oZ,.int .i64 750000] 112 (0,0))
 v:w'.heap[N+2]? =some (.cells #[.int .i64 550000,.int .i64 1] 63 (0,0))
 s:w'.heap[N+3]? =some (.cells (gX (ui 10000000).s none 0 0++gX (ui 0).s none 0 0).toArray 70 (0,0))
 be:Below N w w'
 sz:w'.heap.size=N+4
def Ov(N:Nat):Value:=jG tq ⟨some ⟨N+1,0,none⟩,2,2⟩ ⟨some ⟨N+2,0,none⟩,1,1⟩ ⟨some ⟨N+3,0,none⟩,2,2⟩ ij
def FU(w:World)(a b c d):((((w.alloc a).alloc b).alloc c).alloc d).heap[w.heap.size]? =some a/\((((w.alloc a).alloc b).alloc c).alloc d).heap[w.heap.size+1]? =some b/\((((w.alloc a).alloc b).alloc c).alloc d).heap[w.heap.size+2]? =some c/\((((w.alloc a).alloc b).alloc c).alloc d).heap[w.heap.size+3]? =some d/\Below w w ((((w.alloc a).alloc b).alloc c).alloc d)/\((((w.alloc a).alloc b).alloc c).alloc d).heap.size=w.heap.size+4:=by
 have s1:(w.alloc a).heap.size=w.heap.size+1:=by simp
 have s2:((w.alloc a).alloc b).heap.size=w.heap.size+2:=by simp
 have e:(((w.alloc a).alloc b).alloc c).heap.size=w.heap.size+3:=by simp
 exact⟨(iC (by omega)).trans ((iC (by omega)).trans ((iC (by omega)).trans (ku rfl))),(iC (by omega)).trans ((iC (by omega)).trans (ku s1)),(iC (by omega)).trans (ku s2),ku e,gY (gY (gY (gY (TH _ _)))),by simp⟩
def AC(w):Calls prog 20 #[] w fun e w'=>e=.returned (Ov w)/\AB w w w':=by
 go_enter func20,ntmps20
 go_wp2_with fail
 obtain⟨a,b,c,d,f,g⟩:=FU w (.cells (iw tq ⟨some ⟨w.heap.size+1,0,none⟩,2,2⟩ ⟨some ⟨w.heap.size+2,0,none⟩,1,1⟩ ⟨some ⟨w.heap.size+3,0,none⟩,2,2⟩ ij).toArray 37) (.cells #[oZ,oZ,oZ,.int .i64 750000] 112) (.cells #[.int .i64 550000,.int .i64 1] 63) (.cells (gX (ui 10000000).s none 0 0++gX (ui 0).s none 0 0).toArray 70);refine ar (results_cell_row rfl _ _ w 37 _ (0,0) _ rfl a underlying37 rfl Tryz.infoLens) rfl ?_;exact⟨rfl,b,c,d,f,g⟩
def AB.lens{N w w'}(h:AB N w w'):iP (fun b=>N<=b/\b<w'.heap.size) w' tq ⟨some ⟨N+1,0,none⟩,2,2⟩ ⟨some ⟨N+2,0,none⟩,1,1⟩ ⟨some ⟨N+3,0,none⟩,2,2⟩ ij:=by
 have n:=h.sz
 refine⟨⟨rfl,aa _,fun _=>⟨N+1,0,rfl,⟨by omega,by omega⟩,fun j c=>?_⟩⟩,⟨rfl,aa _,fun _=>⟨N+2,0,rfl,⟨by omega,by omega⟩,fun j c=>?_⟩⟩,
  ⟨rfl,aa _,fun _=>⟨N+3,0,rfl,⟨by omega,by omega⟩,fun i y a=>?_⟩⟩,RR.nil _ _ _ _ _ _,by show(2:Nat)<=_;omega,by show(1:Nat)<=_;omega,by show(2:Nat)<=_;omega,by decide,fun e=>(by cases e),fun e=>(by cases e),by decide⟩
 .have k:j<4:=c
  match j,k with
  |0,_=>exact gA h.f 0
  |1,_=>exact gA h.f 1
  |2,_=>exact gA h.f 2
  |3,_=>exact gA h.f 3
  |j+4,c=>omega
 .have g:j<2:=c
  match j,g with
  |0,_=>exact gA h.v 0
  |1,_=>exact gA h.v 1
  |j+2,c=>omega
 .match i,a with
  |0,a=>
   cases a
   exact⟨_,⟨none,0,0,rfl,IRp.nil _ _ _ _ _,by decide,fun _=>rfl,by decide⟩,fun j v d=>by
    have l:=(TG.1 d).1;have m:j<22:=l;rw[gA h.s,bo]
    show(gX _ none 0 0++gX _ none 0 0)[0+0*22+j]? =_
    rw[show 0+0*22+j=j by omega,aF l];exact d⟩
  |1,a=>
   cases a
   exact⟨_,⟨none,0,0,rfl,IRp.nil _ _ _ _ _,by decide,fun _=>rfl,by decide⟩,fun j v d=>by
    rw[gA h.s,bo]
    show(gX _ none 0 0++gX _ none 0 0)[0+1*22+j]? =_
    rw[aY (by show 22<=_;omega)]
    show(gX _ none 0 0)[0+1*22+j-22]? =_
    rw[show 0+1*22+j-22=j by omega];exact d⟩
  |i+2,a=>cases a
def CD(w):Calls prog 44 #[] w fun e w'=>e=.returned (.slice (J (w.heap.size)) 12 12)/\w'=w.alloc (.cells (ji jq).toArray 9):=by
 go_enter func44,ntmps44
 go_wp2_with fail
 go_ret;exact⟨rfl,rfl⟩
def AD:∀(ws:List (List UInt8)),ws≠[]->rm ws=Lib.join ws [10]++[10]
 |[],h=>absurd rfl h
 |[a],_=>by unfold rm;simp[Lib.join]
 |a::b::r,_=>by
  have h:=AD (b::r) (by simp)
  have e:rm (a::b::r)=(a++[10])++rm (b::r):=by unfold rm;simp
  rw[e,h];simp[Lib.join,Lib.joinTail]
def xx(ws g off c w)(h:∀i x,ws[i]? =some x->w.cell? ⟨g,off+i,none⟩=some (.string (bs x)))(s:g<w.heap.size)(u:ws.length<=c)(v:ws.length<=1000000)(q:(rm ws).length<=1000000)(h0:ws≠[]):
 Calls prog 21 #[Z (some ⟨g,off,none⟩) ws.length c] w (iZ w (.string (bs (rm ws)))):=by
 have k:(ws.map bs).map (fun b=>b.data.toList)=ws:=by rw[dD];exact fY (fun x=>rfl) ws
 have d:∀(j:Nat) x,(ws.map bs)[j]? =some x->w.cell? ⟨g,off+j,none⟩=some (.string x):=fun j x l=>by
  rw[aR]at l
  cases hw:ws[j]? with
  |none=>rw[hw]at l;cases l
  |some y=>rw[hw]at l;cases l;exact h j y hw
 have o:=AD ws h0
 have r:(Lib.join ws [10]).length<=1000000:=by rw[o,al]at q;omega
 have key:=Tryz.strings_Join g off c (ws.map bs) {data:=#[10]} w d s (by rw[aU];omega) (by rw[aU];omega) (by rw[k];show(Lib.join ws [10]).length<=_;omega);rw[aU,k]at key
 have a:bs (Lib.join ws [10])++({data:=#[10]}:ByteArray)=bs (rm ws):=by rw[o];exact oQ _ [10]
 have m:=O key;have f:=O a;clear h d k key a o q
 go_enter func21,ntmps21
 go_wp2_with fail
 refine m.mono ?_;rintro e z ⟨rfl,n⟩;have p:=O n;clear n m
 change (Lib.join ws [10]).length<=1000000 at r
 have a:=f.out;clear f
 have t:¬9223372036854775807<(Lib.join ws [10]).length+1:=by omega
 have f:=O a;clear a
 go_wp2_with fail
 go_ret;exact⟨by rw[<- f];rfl,p⟩
def uj{W:World}{N ws}(h:W.heap[N]? =some (.cells (ji ws).toArray 9 (0,0)))(j x)(a:ws[j]? =some x):W.cell? ⟨N,j,none⟩=some (.string (bs x)):=by
 rw[gA h j,bo];unfold ji;rw[aR,a];rfl
def lU{o:Oper}{a}{K:Act->World->Prop}{Q:Exit->Act->World->Prop}{w}(s x t)(r:o.op=.call {callee:=.builtin .append,args:=#[s,x],argTypes:=#[t,t]})(ht:prog.underlying t=some (.slice 9))(base v n l ys)(hs:a.eval s=v)(hown:w.ownsRow base 9 1 v n (ji l))(sp m c)(hx:a.eval x=.slice sp m c)(hys:ys.length=m)(hnews:0<m-> ∃b off,sp=some ⟨b,off,none⟩/\ ∀(j:Nat) y,ys[j]? =some y->w.cell? ⟨b,off+j,none⟩=some (.string (bs y)))(hmn:sp=none->m=0/\c=0)(hnm:n+m<=1000000)(hbase:base<=w.heap.size)(h:∀f w',w'.ownsRow base 9 1 f (n+m) (ji (l++ys))->w.grownBy w' v.ownBlock->K (a.put o.dst f) w'):o.wp prog a w K Q:=by
 obtain⟨i,g,k,p,q⟩:=sd Tryz.infoStr
 cases sp with
 |none=>
  obtain⟨rfl,rfl⟩:=hmn rfl;obtain rfl:ys=[]:=aX.1 hys;have e:=run_append_owned_none (P:=prog) (w:=w) base t o.type _ i 1 ht g v n (ji l) hown;unfold Oper.wp execOp;simp only[r,resolve,invoke,builtin,bR,cT,bU,List.map_toArray,aN,bI,hs,hx,e];exact h v w (by simpa using hown) ⟨rfl,rfl,rfl,aa _,fun _ _ _=>rfl⟩
 |some z=>
  obtain⟨f,w',D,h2,h3,_,_⟩:=run_append_own_at (P:=prog) w base t o.type _ i (.string {data:=#[]}) 1 16 ht g k p q (by simp[Value.cells]) (by omega) v n (ji l) hown z m c (ji ys) (by rw[xo,hys,dn]) (fun j u d=>by
   by_cases C:0<m
   .obtain⟨b,off,B,A⟩:=hnews C
    obtain rfl:=aE B;unfold ji at d;rw[aR]at d
    cases hy:ys[j]? with
    |none=>rw[hy]at d;cases d
    |some y=>
     rw[hy]at d;cases d;have:=A j y hy;unfold Addr.add
     by_cases h0:j=0
     .subst h0;simpa using this
     .simpa[h0]using this
   .have:ys.length=0:=by omega
    rw[aX.1 this]at d;cases d) (by unfold ji;simp[Value.oneCell']) (by unfold maxLen;omega) (by omega) hbase
  unfold Oper.wp execOp;simp only[r,resolve,invoke,builtin,bR,cT,bU,List.map_toArray,aN,bI,hs,hx,D];rw[<- Du]at h2;exact h f w' h2 h3
def rW(i)(hi:i<12)(ws a n c w)(hw:ua w a n c ws w)(hn:n<=10)(hl:(wJ i ws).length<=1000000)(N:a=none->c=0)(a1:jq.take i++ws++jq.drop (i+1)≠[]):
 Calls prog 24 #[.int .i64 (i:Int),Z a n c] w (iZ w (.string (bs (wJ i ws)))):=by
 have Hw:=O hw;have Hl:=O hl;have M:=O a1;have a0:=hw.1;clear hw hl a1
 have b1:(i:Int) <12:=by omega
 have b5:IntKind.i64.wrap ((i:Int)+1)=(i:Int)+1:=TM _ (by omega)
 have b3:(i:Int)+1<=12:=by omega
 have b4:(i:Int)<=12:=by omega
 have b2:(0:Int)<=(i:Int)+1:=by omega
 go_enter func24,ntmps24
 go_wp2_with(refine(CD _).mono ?_;rintro e w1 ⟨rfl,rfl⟩)
 by_cases a2:i=11
 .subst a2
  have b0:IntKind.i64.wrap 12=12:=TM _ (by omega);refine kC (S:=fun _=>False) 13 [(1,true),(2,true),(3,true),(5,true),(7,true),(8,true),(9,true),(10,true),(0,false),(4,false),(6,false),(11,false),(12,false)] (by kernel_rfl) (by kernel_rfl) ?_
  iterate 8
   refine kQ (v:=?_) rfl (fun _ _ _ h=>h) (by rfl) ?_ ?_;rotate_left
   .intro y m
    skip;go_simp
    with_reducible rfl
   try simp only[V]
  refine iT rfl rfl (fun K f=>?_);go_simp;refine f _ _ (fun x o=>o.elim) ?_;clear f K
  try simp only[V]
  have P:(w.alloc (.cells (ji jq).toArray 9)).heap[w.heap.size]? =some (.cells (ji jq).toArray 9 (0,0)):=TL w _;have u:Below w w (w.alloc (.cells (ji jq).toArray 9)):=(TH _ _).alloc (aa _) _
  have X:(w.alloc (.cells (ji jq).toArray 9)).heap.size=w.heap.size+1:=by simp
  have b:=World.ownsRow_made (e:=9) (size:=1) (base:=w.heap.size+1) (w.alloc (.cells (ji jq).toArray 9)) #[] 0 (by omega) (by unfold maxLen;omega) rfl;rw[X]at b;have q:Below (w+1) (w.alloc (.cells (ji jq).toArray 9)) ((w.alloc (.cells (ji jq).toArray 9)).alloc (.cells #[] 9)).drew:=((TH _ _).alloc (by omega) _).drew;have a5:=q.size;refine iT rfl rfl (fun K f=>?_)
  refine lU _ _ _ rfl underlying52 (w+1) _ 0 [] (jq.take 11) rfl b _ 11 12 rfl (by rw[bn];show min 11 12=11;omega) (fun _=>⟨w.heap.size,0,rfl,fun j y m=>by
   rw[aV]
   exact(q.cell (p:=⟨w.heap.size,j,none⟩) (by show w.heap.size<w.heap.size+1;omega)).trans (uj P j y (by
    have hj:=(TG.1 m).1;rw[bn]at hj
    rw[gd (by omega)]at m;exact m))⟩) (by intro e;cases e) (by omega) (by omega) ?_
  intro v2 W2 d D;refine f _ _ (fun x o=>o.elim) ?_;clear f K
  try simp only[V]
  have r:=q.grown D (by omega) (fun k e=>(b.lt k e).1);have a6:=r.size;rw[aV,bD]at d;have H:=u.trans (r.mono (by omega));refine iT rfl rfl (fun K f=>?_)
  refine lU _ _ _ rfl underlying52 (w+1) _ 11 (jq.take 11) ws rfl d a n c rfl a0 (fun h0=>by
   obtain⟨T,off,e,hlt,W⟩:=Hw.2.2 h0
   exact⟨T,off,e,fun j y m=>(H.cell (p:=⟨T,off+j,none⟩) hlt).trans (W j y m)⟩) (fun e=>⟨by have:=Hw.2.1;have:=N e;omega,N e⟩) (by omega) (by omega) ?_
  intro v3 W3 g E;refine f _ _ (fun x o=>o.elim) ?_;clear f K
  try simp only[V]
  have t:=r.grown E (by omega) (fun k e=>(d.lt k e).1);have a7:=t.size;refine iT rfl rfl (fun K f=>?_)
  refine lU _ _ _ rfl underlying52 (w+1) _ (11+n) (jq.take 11++ws) (jq.drop (11+1)) rfl g _ (0) (0) rfl (by rw[eQ];show 12-(11+1)=0;omega) (fun _=>⟨w.heap.size,0,rfl,fun j y m=>by
   rw[cp]at m
   have h1:=(TG.1 m).1;have h2:jq.length=12:=rfl;omega⟩) (by intro e;cases e) (by omega) (by omega) ?_
  intro v4 W4 l F;refine f _ _ (fun x o=>o.elim) ?_;clear f K
  try simp only[V]
  have B:=t.grown F (by omega) (fun k e=>(g.lt k e).1);have L:=u.trans (B.mono (by omega));obtain⟨a4,c4,rfl⟩:=kx l;obtain⟨g4,rfl,_,A,z,a3,s⟩:=tZ l (ez.2 M);have key:=xx (jq.take 11++ws++jq.drop (11+1)) g4 0 c4 W4 (fun j y m=>s j (bs y) (by rw[aR,m];rfl)) A (by omega) (by rw[<- z];omega) Hl M;rw[<- z]at key;have R:=O key;clear key z;refine iT rfl rfl (fun K f=>?_);go_simp;refine R.mono ?_;rintro e W5 ⟨rfl,C⟩;refine f _ _ (fun x o=>o.elim) ?_;clear f K
  try simp only[V]
  refine nK rfl ?_;have Q:=O (I L C);clear C L B t r q H u s l g d b P D E F
  go_wp2_with fail
  go_ret;exact⟨by first|rfl|(unfold wJ;rw[aC];rfl),Q⟩
 .refine kC (S:=fun _=>False) 13 [(1,true),(2,true),(3,true),(5,true),(7,true),(8,true),(9,true),(10,true),(0,false),(4,false),(6,false),(11,false),(12,false)] (by kernel_rfl) (by kernel_rfl) ?_
  have a8:¬12=i+1:=by omega
  have a9:¬i+1=12:=by omega
  iterate 8
   refine kQ (v:=?_) rfl (fun _ _ _ h=>h) (by rfl) ?_ ?_;rotate_left
   .intro y m
    skip;go_simp
    with_reducible rfl
   try simp only[V]
  refine iT rfl rfl (fun K f=>?_);go_simp;refine f _ _ (fun x o=>o.elim) ?_;clear f K
  try simp only[V]
  have P:(w.alloc (.cells (ji jq).toArray 9)).heap[w.heap.size]? =some (.cells (ji jq).toArray 9 (0,0)):=TL w _;have u:Below w w (w.alloc (.cells (ji jq).toArray 9)):=(TH _ _).alloc (aa _) _
  have X:(w.alloc (.cells (ji jq).toArray 9)).heap.size=w.heap.size+1:=by simp
  have b:=World.ownsRow_made (e:=9) (size:=1) (base:=w.heap.size+1) (w.alloc (.cells (ji jq).toArray 9)) #[] 0 (by omega) (by unfold maxLen;omega) rfl;rw[X]at b;have q:Below (w+1) (w.alloc (.cells (ji jq).toArray 9)) ((w.alloc (.cells (ji jq).toArray 9)).alloc (.cells #[] 9)).drew:=((TH _ _).alloc (by omega) _).drew;have a5:=q.size;refine iT rfl rfl (fun K f=>?_)
  refine lU _ _ _ rfl underlying52 (w+1) _ 0 [] (jq.take i) rfl b _ i 12 rfl (by rw[bn];show min i 12=i;omega) (fun _=>⟨w.heap.size,0,rfl,fun j y m=>by
   rw[aV]
   exact(q.cell (p:=⟨w.heap.size,j,none⟩) (by show w.heap.size<w.heap.size+1;omega)).trans (uj P j y (by
    have hj:=(TG.1 m).1;rw[bn]at hj
    rw[gd (by omega)]at m;exact m))⟩) (by intro e;cases e) (by omega) (by omega) ?_
  intro v2 W2 d D;refine f _ _ (fun x o=>o.elim) ?_;clear f K
  try simp only[V]
  have r:=q.grown D (by omega) (fun k e=>(b.lt k e).1);have a6:=r.size;rw[aV,bD]at d;have H:=u.trans (r.mono (by omega));refine iT rfl rfl (fun K f=>?_)
  refine lU _ _ _ rfl underlying52 (w+1) _ i (jq.take i) ws rfl d a n c rfl a0 (fun h0=>by
   obtain⟨T,off,e,hlt,W⟩:=Hw.2.2 h0
   exact⟨T,off,e,fun j y m=>(H.cell (p:=⟨T,off+j,none⟩) hlt).trans (W j y m)⟩) (fun e=>⟨by have:=Hw.2.1;have:=N e;omega,N e⟩) (by omega) (by omega) ?_
  intro v3 W3 g E;refine f _ _ (fun x o=>o.elim) ?_;clear f K
  try simp only[V]
  have t:=r.grown E (by omega) (fun k e=>(d.lt k e).1);have a7:=t.size;refine iT rfl rfl (fun K f=>?_)
  refine lU _ _ _ rfl underlying52 (w+1) _ (i+n) (jq.take i++ws) (jq.drop (i+1)) rfl g _ (11-i) (11-i) rfl (by rw[eQ];show 12-(i+1)=11-i;omega) (fun _=>⟨w.heap.size,i+1,rfl,fun j y m=>by
   rw[cp]at m
   exact(t.cell (p:=⟨w.heap.size,i+1+j,none⟩) (by show w.heap.size<w.heap.size+1;omega)).trans (uj P (i+1+j) y m)⟩) (by intro e;cases e) (by omega) (by omega) ?_
  intro v4 W4 l F;refine f _ _ (fun x o=>o.elim) ?_;clear f K
  try simp only[V]
  have B:=t.grown F (by omega) (fun k e=>(g.lt k e).1);have L:=u.trans (B.mono (by omega));obtain⟨a4,c4,rfl⟩:=kx l;obtain⟨g4,rfl,_,A,z,a3,s⟩:=tZ l (ez.2 M);have key:=xx (jq.take i++ws++jq.drop (i+1)) g4 0 c4 W4 (fun j y m=>s j (bs y) (by rw[aR,m];rfl)) A (by omega) (by rw[<- z];omega) Hl M;rw[<- z]at key;have R:=O key;clear key z;refine iT rfl rfl (fun K f=>?_);go_simp;refine R.mono ?_;rintro e W5 ⟨rfl,C⟩;refine f _ _ (fun x o=>o.elim) ?_;clear f K
  try simp only[V]
  refine nK rfl ?_;have Q:=O (I L C);clear C L B t r q H u s l g d b P D E F
  go_wp2_with fail
  go_ret;exact⟨by first|rfl|(unfold wJ;rw[aC];rfl),Q⟩
def TN{ops b e d w}{Q:Exit->Act->World->Prop}{g T x f v s k}(h:hU w g T x f v s k)(i:Region.wanted e (yielded ops d.tmps)=true)(y)(m:e.op=.load 37 y)(o:d.eval y=.pointer (J g))(l:wpList prog ops Q b (d.put e.dst (.agg #[x.nm,x.dist,x.pupil,x.stop,x.prim,Z f.a f.n f.c,Z v.a v.n v.c,Z s.a s.n s.c,Z k.a k.n k.c])) w):wpList prog ops Q (e::b) d w:=
 pV i fun K j=>wp_load_mid 37 y m g 0 o (iw x f v s k) _ h.range underlying37 rfl Tryz.infoLens (j _ _ l)
def Ow(S:Nat->Prop)(w):iP S w mG ij ij ij ij:=
 ⟨IRp.nil _ _ _ _ _,IRp.nil _ _ _ _ _,RR.nil _ _ _ _ _ _,RR.nil _ _ _ _ _ _,by decide,by decide,by decide,by decide,fun _=>rfl,fun _=>rfl,by decide⟩
structure KW (w:World):Prop where
 g:GW w
 P:jY w w
 T:TW w w
def TW.go{w w':World}(h:TW w w)(a:Below w w w'):TW w' w':=(h.below a).mono a.size
def KW.go{w w'}(h:KW w)(a:Below w w w'):KW w':=⟨h.g.below a,h.P.go a,h.T.go a⟩
def CE(t x)(h:nr t=⟨x,0,0⟩)(f v s k w)(R:iP (fun b=>b<w.heap.size) w x f v s k)(hw:KW w)(ht:t.length<=100000):
 Calls prog 22 #[.string (bs t),jG x f v s k] w (iZ w (.bool true)):=by
 have p:Below w w (w.alloc (.cells (iw x f v s k).toArray 37)):=(TH w w).alloc (aa _) _;have i:hU (w.alloc (.cells (iw x f v s k).toArray 37)) w 37 x f v s k:=TL w _;have Hx:=O R;have z:=O hw;have l:=O p;have d:=O i;have H:=O h;clear R hw p i h;unfold jG
 go_enter func22,ntmps22
 go_upto_region 1 with fail
 refine gI (fun X=>hU X w 37 x f v s k/\Below w w X) ⟨d,l⟩ ?_;clear d l;rintro A ⟨M,a⟩
 have Q:Calls prog 18 #[.string (bs t)] A (ye A ⟨x,0,0⟩):=by
  rw[<- H];exact vE t A (z.go a).g (z.go a).T (z.go a).P ht
 have Hp:=O Q;have H9:=O M;have m:=O a;clear Q M a H
 go_wp2_with(first
  |(refine Hp.mono ?_;rintro e B ⟨L,S,s',k',rfl,N,q⟩;unfold jG;have HL:=O N;have j:=O q;clear N q)
  |(refine ja x L S s' k' (TL B _) rfl rfl (.tmp 5) (.tmp 11) rfl rfl rfl ?_;intro W h3 u;have c:Below B B W:=(by rw[u];exact ig (aa _) _ _ ((TH _ _).alloc (aa _) _));have o:=HL.go c;have y:=Hx.go (I (I m j) c);have n:=hU.go (hU.go H9 j) c;have H3:=O h3;have D:=O o;have K:=O y;have C:=O n;have E:=O (I (I m j) c);clear h3 u c o y n)
  |(refine TN H3 rfl (.tmp 5) rfl rfl ?_)
  |(refine TN C rfl (.tmp 3) rfl rfl ?_)
  |(refine(xw x L S s' k' f v s k W D K).mono ?_;rintro e w4 ⟨rfl,r⟩;have F:=O r;clear r))
 go_ret;exact⟨rfl,I E F⟩
def rX(t line a)(h:pU t line a)(w)(hw:KW w)(y:t.length<=100000):
 Calls prog 23 #[.string (bs t),line,a] w (iZ w (.bool true)):=by
 have q:Calls prog 18 #[.string (bs t)] w (ye w ⟨mG,line,a⟩):=by
  unfold pU at h;rw[<- h];exact vE t w hw.g hw.T hw.P y
 have x:=O q;clear q hw h
 go_enter func23,ntmps23
 go_wp2_with(first
  |(refine x.mono ?_;rintro e j ⟨o,r,s',k',rfl,p,d⟩;unfold jG;have v:=O p;have l:=O d;clear p d)
  |(refine ja mG o r s' k' (TL j _) rfl rfl (.tmp 7) (.tmp 13) rfl rfl rfl ?_;intro s h3 i;have b:Below j j s:=(by rw[i];exact ig (aa _) _ _ ((TH _ _).alloc (aa _) _));have c:=v.go b;have u:=O h3;have k:=O c;have m:=O (I l b);clear h3 i b c)
  |(refine TN u rfl (.tmp 7) rfl rfl ?_)
  |(refine(xw mG o r s' k' ij ij ij ij s k (Ow _ _)).mono ?_;rintro e z ⟨rfl,f⟩;have n:=O f;clear f))
 go_ret;exact⟨rfl,I m n⟩
def IQ{P g}{e:Act}{y b T x f v s k d}(h:hU y b T x f v s k)(l:P.underlying 37=some d)(i:d.isRow=true)(hi:(P.info? 37).map (·.size)=some 9)(z)(j:g.op=.load 37 z)(m:e.eval z=.pointer (J b)):(execOp e.eval g).run P y=.ok (.value (.agg #[x.nm,x.dist,x.pupil,x.stop,x.prim,Z f.a f.n f.c,Z v.a v.n v.c,Z s.a s.n s.c,Z k.a k.n k.c])) y:=by
 unfold execOp;simp only[j,m,Instr.loadAt,Instr.sureAddr,bR,cT,bU,run_loadVar_mid y b 0 37 (iw x f v s k) d h.range l i hi];rfl
def Br{ops}{Q:Exit->Act->World->Prop}{N i j fs}{C:Nat->Prop}{d g e}{w:World}(hi:ops.toList[i]? =some g)(l:j.contains i=false)(hw:Region.wanted g (yielded ops e.tmps)=true){b T x f v s k}(h:∀y,Below w w y->hU y b T x f v s k)(z)(o:g.op=.load 37 z)(p:e.eval z=.pointer (J b))(m:Bx prog ops Q N j fs C d (e.put g.dst (.agg #[x.nm,x.dist,x.pupil,x.stop,x.prim,Z f.a f.n f.c,Z v.a v.n v.c,Z s.a s.n s.c,Z k.a k.n k.c])) w):Bx prog ops Q N j fs C ((i,true)::d) e w:=
 gZ hi l hw (fun y q=>IQ (h y q) underlying37 rfl Tryz.infoLens z o p) m
def IS:wI tq=.tuple #[.string (bs (rm jq)),oZ]:=by
 unfold wI;rw[IN,aq rfl,aq rfl,CC]
def IT(N w0 w)(h:AB N w0 w)(hw:KW w):Calls prog 11 #[Ov N] w (iZ w (.tuple #[.string (bs (rm jq)),oZ])):=by
 rw[<- IS];exact CB tq _ _ _ _ w (h.lens.kept (gN.refl _ _) (fun b a=>a.2)) hw.g hw.P hw.T (fun _=>by rw[CC];exact bx (by kernel_rfl))
def Bs{N}{w w':World}(h:Below w w w'):gN (fun b=>N<=b/\b<w.heap.size) w w':=fun b a=>h.block b a.2
def yR{W N ws}(h:W.heap[N]? =some (.cells (ji ws).toArray 9 (0,0))):ua W (J N) ws.length ws.length ws W:=
 ⟨rfl,aa _,fun _=>⟨N,0,rfl,TK h,fun i x a=>by rw[aV];exact uj h i x a⟩⟩
def IU{N w w'}(h:AB N w w'){W}(g:Below w' w' W):iP (fun b=>b<(W.setCell ⟨N+3,1,none⟩ (.int .i64 10000000)).heap.size) (W.setCell ⟨N+3,1,none⟩ (.int .i64 10000000)) wK ⟨some ⟨N+1,0,none⟩,2,2⟩ ⟨some ⟨N+2,0,none⟩,1,1⟩ ⟨some ⟨N+3,0,none⟩,2,2⟩ ij:=by
 have r:=h.sz;have q:=g.size
 have p:(W.setCell ⟨N+3,1,none⟩ (.int .i64 10000000)).heap.size=W.heap.size:=by simp
 have hf:=(iS (u:=.int .i64 10000000) (j:=1) (show N+1≠N+3 by omega)).trans ((g.block (N+1) (by omega)).trans h.f);have a:=(iS (u:=.int .i64 10000000) (j:=1) (show N+2≠N+3 by omega)).trans ((g.block (N+2) (by omega)).trans h.v);have l:=gG ((g.block (N+3) (by omega)).trans h.s) 1 (.int .i64 10000000);have k:(W.setCell ⟨N+3,1,none⟩ (.int .i64 10000000)).heap[N+3]? =some (.cells (gX {(ui 10000000).s with curv:=10000000} none 0 0++gX (ui 0).s none 0 0).toArray 70 (0,0)):=l
 refine⟨⟨rfl,aa _,fun _=>⟨N+1,0,rfl,by omega,fun j d=>?_⟩⟩,⟨rfl,aa _,fun _=>⟨N+2,0,rfl,by omega,fun j d=>?_⟩⟩,
  ⟨rfl,aa _,fun _=>⟨N+3,0,rfl,by omega,fun i y c=>?_⟩⟩,RR.nil _ _ _ _ _ _,by show(2:Nat)<=_;omega,by show(1:Nat)<=_;omega,by show(2:Nat)<=_;omega,by decide,fun e=>(by cases e),fun e=>(by cases e),by decide⟩
 .have n:j<4:=d
  match j,n with
  |0,_=>exact gA hf 0
  |1,_=>exact gA hf 1
  |2,_=>exact gA hf 2
  |3,_=>exact gA hf 3
  |j+4,d=>omega
 .have m:j<2:=d
  match j,m with
  |0,_=>exact gA a 0
  |1,_=>exact gA a 1
  |j+2,d=>omega
 .match i,c with
  |0,c=>
   cases c
   exact⟨_,⟨none,0,0,rfl,IRp.nil _ _ _ _ _,by decide,fun _=>rfl,by decide⟩,fun j v a=>by
    have o:=(TG.1 a).1;rw[gA k,bo]
    show(gX _ none 0 0++gX _ none 0 0)[0+0*22+j]? =_
    rw[show 0+0*22+j=j by omega,aF o];exact a⟩
  |1,c=>
   cases c
   exact⟨_,⟨none,0,0,rfl,IRp.nil _ _ _ _ _,by decide,fun _=>rfl,by decide⟩,fun j v a=>by
    rw[gA k,bo]
    show(gX _ none 0 0++gX _ none 0 0)[0+1*22+j]? =_
    rw[aY (by show 22<=_;omega)]
    show(gX _ none 0 0)[0+1*22+j-22]? =_
    rw[show 0+1*22+j-22=j by omega];exact a⟩
  |i+2,c=>cases c
def Mc(w)(hw:KW w):Calls prog 13 #[] w (iZ w (.bool true)):=by
 have Hw:=O hw;clear hw
 go_enter func13,ntmps13
 go_wp2_with fail
 refine(AC w).mono ?_;rintro e w1 ⟨rfl,hf⟩;have ht:=IT w w w1 hf (Hw.go hf.be);generalize Ov w=Vq0 at*;have Ht:=O ht;have Hf:=O hf;clear ht hf;obtain⟨T0,d4⟩:∃T0,rm jq=T0:=⟨_,rfl⟩;rw[d4]at Ht;have d3:=O d4;clear d4
 go_wp2_with(refine Ht.mono ?_;rintro e d ⟨rfl,g0⟩;have f5:=O g0;clear g0)
 refine(AC d).mono ?_;rintro e w3 ⟨rfl,F⟩;have g:=O F;clear F
 go_upto_region 3 with(refine ja tq ⟨some ⟨d.heap.size+1,0,none⟩,2,2⟩ ⟨some ⟨d.heap.size+2,0,none⟩,1,1⟩ ⟨some ⟨d.heap.size+3,0,none⟩,2,2⟩ ij (TL w3 _) rfl rfl (.tmp 3) (.tmp 11) rfl rfl rfl ?_;intro L h4 h8;have i:Below w3 w3 L:=(by rw[h8];exact ig (aa _) _ _ ((TH _ _).alloc (aa _) _));have H4:=O h4;have a5:=O i;clear h4 i h8)
 have h7:=g.sz;have c7:L.cell? ⟨w3.heap.size,7,none⟩=some (.slice (J (d+3)) 2 2):=gA H4 7;have hS:=(a5.block (d+3) (by omega)).trans g.s;have d1:L.cell? ⟨d.heap.size+3,1,none⟩=some (.int .i64 0):=gA hS 1;have g1:L.frozen? ⟨d.heap.size+3,1,none⟩=false:=gD hS 1;have HS:=O hS;clear hS;have i9:=O h7;clear h7
 go_wp2_with fail
 have hL:=IU g a5;have hB:hU (L.setCell ⟨d.heap.size+3,1,none⟩ (.int .i64 10000000)) w3 37 wK ⟨some ⟨d.heap.size+1,0,none⟩,2,2⟩ ⟨some ⟨d.heap.size+2,0,none⟩,1,1⟩ ⟨some ⟨d.heap.size+3,0,none⟩,2,2⟩ ij:=(iS (by have:=i9.out;omega)).trans H4
 have d5:Below w w (L.setCell ⟨d.heap.size+3,1,none⟩ (.int .i64 10000000)):=by
  have h1:=Hf.be;have h2:=I h1 f5;have h3:=I h2 g.be;exact kZ (I h3 a5) (by have:=h2.size;omega)
 clear c7 d1 g1;generalize L.setCell ⟨d.heap.size+3,1,none⟩ (.int .i64 10000000)=W5 at*;have HL:=O hL;have c:=O hB;have f6:=O d5;have f3:=O (Hw.go d5);clear hL hB d5 HS a5 H4 g f5 Hf Ht;refine(CD W5).mono ?_;rintro e w6 ⟨rfl,rfl⟩;have d8:=xx jq W5 0 12 (W5.alloc (.cells (ji jq).toArray 9)) (fun j x hx=>by rw[aV];exact uj (TL W5 _) j x hx) (by simp) (by decide) (by decide) (bx (by kernel_rfl)) (by decide);rw[d3]at d8;have b8:Below W5 W5 (W5.alloc (.cells (ji jq).toArray 9)):=(TH _ _).alloc (aa _) _;have a3:=O b8;have f9:=O d8;clear d8 b8
 go_wp2_with(refine f9.mono ?_;rintro e w7 ⟨rfl,g2⟩;have E:=O (I a3 g2);clear g2)
 have h5:nr T0=⟨tq,0,0⟩:=by rw[<- d3];exact Ma
 have b2:T0.length<=100000:=by rw[<- d3];exact bx (by kernel_rfl)
 have f4:=O (HL.go E);have f2:=O (c.go E);have R:=O (f3.go E);have f7:=O h5;have a1:=O b2;have a6:=O (I f6 E);clear h5 b2 HL c f3 E a3 f9 f6 Hw;refine ic 18 [] [] [(0,true),(1,true),(2,true),(3,true),(4,true),(5,true),(6,true),(7,true),(8,true),(9,false),(10,false),(11,true),(12,true),(15,true),(13,false),(14,false),(16,false),(17,true)] (by kernel_rfl) (by kernel_rfl) ⟨by simp,by simp,fun _ h=>by cases h⟩ (fun _ _ _ _ _ h=>h) (fun _ _ o _ _ h=>by cases o<;>exact h) ?_
 iterate 9
  refine gZ (v:=?_) rfl rfl (by rfl) ?_ ?_;rotate_left
  .intro y hy
   skip;go_simp
   with_reducible rfl
  try simp only[V]
 refine kH rfl (by rfl) (fun x1 h9 K f=>?_);go_simp;refine(AC x1).mono ?_;rintro e x2 ⟨rfl,hf⟩;refine f _ _ hf.be ?_;clear f K;have c5:Below w7 w7 x1:=gJ (k:=1) h9;have d9:=I c5 hf.be
 try simp only[V]
 refine kH rfl (by rfl) (fun x3 H K f=>?_);go_simp;refine(CE T0 tq f7 _ _ _ _ x3 (hf.lens.kept (Bs H) (fun b hb=>ab hb.2 H.size)) (R.go (I d9 H)) a1).mono ?_;rintro e x4 ⟨rfl,i⟩;refine f _ _ i ?_;clear f K;have e0:=I (I d9 H) i;clear hf h9 c5 d9 H i
 try simp only[V]
 iterate 2
  refine gZ (v:=?_) rfl rfl (by rfl) ?_ ?_;rotate_left
  .intro y hy
   skip;go_simp
   with_reducible rfl
  try simp only[V]
 refine Br rfl rfl (by rfl) (fun y hy=>f2.go (I e0 hy)) (.tmp 3) rfl rfl ?_
 try simp only[V]
 refine kH rfl (by rfl) (fun x5 i0 K f=>?_);go_simp;refine f _ _ ((TH _ _).alloc (aa _) _) ?_;clear f K;have d7:(x5.alloc (.cells (ji [[116,104,105,99,107,32,49,48],[99,117,114,118,32,48,46,48,49]]).toArray 9)).heap[x5.heap.size]? =some (.cells (ji [[116,104,105,99,107,32,49,48],[99,117,114,118,32,48,46,48,49]]).toArray 9 (0,0)):=TL x5 _;have i1:Below w7 w7 (x5.alloc (.cells (ji [[116,104,105,99,107,32,49,48],[99,117,114,118,32,48,46,48,49]]).toArray 9)):=gY (I e0 i0)
 try simp only[V]
 refine kH rfl (by rfl) (fun x7 e1 K f=>?_);go_simp;have h0:=(e1.block _ (TK d7)).trans d7;refine(rW 9 (by omega) [[116,104,105,99,107,32,49,48],[99,117,114,118,32,48,46,48,49]] _ 2 2 x7 (yR h0) (by omega) (bx (by kernel_rfl)) (by intro e;cases e) (by decide)).mono ?_;rintro e x8 ⟨rfl,d6⟩;refine f _ _ d6 ?_;clear f K;have c6:=I (I i1 e1) d6;clear d7 h0 i1 e1 d6 i0 e0;obtain⟨T1,b3⟩:∃T1,wJ 9 [[116,104,105,99,107,32,49,48],[99,117,114,118,32,48,46,48,49]]=T1:=⟨_,rfl⟩
 have h6:nr T1=⟨wK,0,0⟩:=by rw[<- b3];exact Mb
 have b4:T1.length<=100000:=by rw[<- b3];exact bx (by kernel_rfl)
 rw[b3];have f8:=O h6;have a2:=O b4;clear h6 b4 b3
 try simp only[V]
 refine kH rfl (by rfl) (fun x9 c8 K f=>?_);go_simp;refine(CE T1 wK f8 ⟨some ⟨d.heap.size+1,0,none⟩,2,2⟩ ⟨some ⟨d.heap.size+2,0,none⟩,1,1⟩ ⟨some ⟨d.heap.size+3,0,none⟩,2,2⟩ ij x9 (f4.go (I c6 c8)) (R.go (I c6 c8)) a2).mono ?_;rintro e j6 ⟨rfl,m⟩;refine f _ _ m ?_;clear f K;have C:=I (I c6 c8) m;clear c6 c8 m
 try simp only[V]
 iterate 1
  refine gZ (v:=?_) rfl rfl (by rfl) ?_ ?_;rotate_left
  .intro y hy
   skip;go_simp
   with_reducible rfl
  try simp only[V]
 refine jV (l:=[_]) rfl (fun c9 D=>?_);have c4:=R.go (I C D);have b9:=I a6 (I C D);have a7:=O c4;have a4:=O b9;clear c4 b9 C D f4 f2 R a6 f7 a1 f8 a2
 go_wp2_with fail
 have a:=a7;have c:=a4;clear a7 a4;have b5:Below c9 c9 (c9.alloc (.cells (ji [[119,97,118,101,32,53,53,48,46,48,32,49]]).toArray 9)):=(TH _ _).alloc (aa _) _;refine(rW 7 (by omega) [[119,97,118,101,32,53,53,48,46,48,32,49]] _ 1 1 _ (yR (TL c9 _)) (by omega) (bx (by kernel_rfl)) (by intro e;cases e) (by decide)).mono ?_;rintro e j0 ⟨rfl,c0⟩;have n:=I b5 c0;obtain⟨P1,a8⟩:∃T,wJ 7 [[119,97,118,101,32,53,53,48,46,48,32,49]]=T:=⟨_,rfl⟩
 have g3:pU P1 8 5:=by rw[<- a8];exact SI
 have g6:P1.length<=100000:=by rw[<- a8];exact bx (by kernel_rfl)
 rw[a8];have i2:=O g3;have i5:=O g6;have S:=O (a.go n);have M:=O (I c n);clear g3 g6 a8 n c0 a c b5;have a:=S;have c:=M
 go_wp2_with fail
 refine(rX P1 8 5 i2 j0 a i5).mono ?_;rintro e d0 ⟨rfl,t⟩;have e7:=O (S.go t);have e2:=O (I M t);clear t;clear a c;have a:=e7;have c:=e2
 go_wp2_with fail
 have b6:Below d0 d0 (d0.alloc (.cells (ji [[116,104,105,99,107,32,49,48],[116,104,105,99,107,32,49,48]]).toArray 9)):=(TH _ _).alloc (aa _) _;refine(rW 9 (by omega) [[116,104,105,99,107,32,49,48],[116,104,105,99,107,32,49,48]] _ 2 2 _ (yR (TL d0 _)) (by omega) (bx (by kernel_rfl)) (by intro e;cases e) (by decide)).mono ?_;rintro e j1 ⟨rfl,c1⟩;have p:=I b6 c1;obtain⟨P2,a9⟩:∃T,wJ 9 [[116,104,105,99,107,32,49,48],[116,104,105,99,107,32,49,48]]=T:=⟨_,rfl⟩
 have F:pU P2 11 5:=by rw[<- a9];exact SJ
 have g7:P2.length<=100000:=by rw[<- a9];exact bx (by kernel_rfl)
 rw[a9];have g:=O F;have i6:=O g7;have W:=O (a.go p);have N:=O (I c p);clear F g7 a9 p c1 a c b6;have a:=W;have c:=N
 go_wp2_with fail
 refine(rX P2 11 5 g j1 a i6).mono ?_;rintro e j4 ⟨rfl,u⟩;have e8:=O (W.go u);have e3:=O (I N u);clear u;clear a c;have a:=e8;have c:=e3
 go_wp2_with fail
 refine(rW 11 (by omega) [] none 0 0 j4 ⟨rfl,aa _,fun h=>absurd h (by omega)⟩ (by omega) (bx (by kernel_rfl)) (fun _=>rfl) (by decide)).mono ?_;rintro e j2 ⟨rfl,c2⟩;have q:=c2;obtain⟨P3,b0⟩:∃T,wJ 11 []=T:=⟨_,rfl⟩
 have g4:pU P3 12 5:=by rw[<- b0];exact SK
 have g8:P3.length<=100000:=by rw[<- b0];exact bx (by kernel_rfl)
 rw[b0];have i3:=O g4;have i7:=O g8;have X:=O (a.go q);have P:=O (I c q);clear g4 g8 b0 q c2 a c;have a:=X;have c:=P
 go_wp2_with fail
 refine(rX P3 12 5 i3 j2 a i7).mono ?_;rintro e j5 ⟨rfl,z⟩;have e9:=O (X.go z);have e4:=O (I P z);clear z;clear a c;have a:=e9;have c:=e4
 go_wp2_with fail
 refine(rX [] 1 5 SN j5 a (by decide)).mono ?_;rintro e d2 ⟨rfl,A⟩;have f0:=O (a.go A);have e5:=O (I c A);clear a c A;have a:=f0;have c:=e5
 go_wp2_with fail
 have b7:Below d2 d2 (d2.alloc (.cells (ji [[115,116,111,112,32,49]]).toArray 9)):=(TH _ _).alloc (aa _) _;refine(rW 3 (by omega) [[115,116,111,112,32,49]] _ 1 1 _ (yR (TL d2 _)) (by omega) (bx (by kernel_rfl)) (by intro e;cases e) (by decide)).mono ?_;rintro e j3 ⟨rfl,c3⟩;have r:=I b7 c3;obtain⟨P5,b1⟩:∃T,wJ 3 [[115,116,111,112,32,49]]=T:=⟨_,rfl⟩
 have g5:pU P5 0 120:=by rw[<- b1];exact SM
 have g9:P5.length<=100000:=by rw[<- b1];exact bx (by kernel_rfl)
 rw[b1];have i4:=O g5;have i8:=O g9;have a0:=O (a.go r);have Q:=O (I c r);clear g5 g9 b1 r c3 a c b7;have a:=a0;have c:=Q
 go_wp2_with fail
 refine(rX P5 0 120 i4 j3 a i8).mono ?_;rintro e j7 ⟨rfl,B⟩;have f1:=O (a0.go B);have e6:=O (I Q B);clear B;clear a c;have a:=f1;have c:=e6
 go_wp2_with fail
 go_ret;exact⟨rfl,c⟩
def iP.wf{D:Nat->Prop}{w:World}{x:gR}{f v s k:iJ}(h:iP D w x f v s k):S0 x where
 fs:=by have:=h.fs.1;omega
 ws:=by have:=h.ws.1;omega
 l:=fun y g=>by
  obtain⟨i,hi,rfl⟩:=dJ g;have h1:=h.l.1;obtain⟨b,off,q,cs,e,m,d,⟨a,n,c,_,j,_⟩,_⟩:=h.l.at (i:=i) (by omega);rw[ae hi]at d;cases d;have:=j.1;omega
 cf:=fun y g=>by
  obtain⟨i,hi,rfl⟩:=dJ g;have h1:=h.cf.1;obtain⟨b,off,q,cs,e,m,d,⟨a,n,c,_,j,_⟩,_⟩:=h.cf.at (i:=i) (by omega);rw[ae hi]at d;cases d;have:=j.1;omega
def OR{x}(h:iI x=true):wI x=.tuple #[.string (bs (nO x)),oZ]:=by unfold wI;rw[aq h,aq h]
def I8:(prog.types[37]'(by decide+kernel)).size=9:=by kernel_rfl
structure OS (w:World) (x:rz) (c:Int) (s f v k:iJ) (n:Nat->Int) (wx:World):Prop where
 d:Sj wx w x c s f v k
 a:Ik wx (w+1) n
 b:Below w w wx
def OS.go{w g i x c s f v k}{n:Nat->Int}(h:OS w x c s f v k n g)(e:Below g g i):OS w x c s f v k n i:=
 ⟨(e.block _ (TK h.d)).trans h.d,(e.block _ (TK h.a)).trans h.a,I h.b e⟩
def Sj.cells{w g x c s f v k}(h:Sj w g x c s f v k):w.cell? (J g)=some (.slice s.a s.n s.c)/\w.cell? ⟨g,1,none⟩=some (.int .u8 x.stop)/\w.cell? ⟨g,2,none⟩=some (.int .u16 x.far)/\w.cell? ⟨g,3,none⟩=some (.int .u8 x.pupil)/\w.cell? ⟨g,4,none⟩=some (.slice f.a f.n f.c)/\w.cell? ⟨g,5,none⟩=some (.slice v.a v.n v.c)/\w.cell? ⟨g,6,none⟩=some (.int .u8 x.prim)/\w.cell? ⟨g,7,none⟩=some (.int .i16 x.image)/\w.cell? ⟨g,8,none⟩=some (.slice k.a k.n k.c)/\w.cell? ⟨g,9,none⟩=some (.int .u8 c):=
 ⟨(gA h 0).trans rfl,(gA h 1).trans rfl,(gA h 2).trans rfl,(gA h 3).trans rfl,(gA h 4).trans rfl,(gA h 5).trans rfl,(gA h 6).trans rfl,(gA h 7).trans rfl,(gA h 8).trans rfl,(gA h 9).trans rfl⟩
def OT(x c s f v k)(n:Nat->Int)(w)(hx:xU (fun b=>b<w.heap.size) w x s f v k)(hc:og c)(hn:∀i,og (n i))(hw:KW w):
 Calls prog 5 #[Fh x c s f v k,Nw n] w (iZ w (.bool true)):=by
 obtain⟨e1,e2⟩:=iN w (.cells (qd x c s f v k).toArray 30) (.cells #[.int .u8 (n 0),.int .u8 (n 1),.int .u8 (n 2),.int .u8 (n 3),.int .u8 (n 4),.int .u8 (n 5),.int .u8 (n 6),.int .u8 (n 7)] 31);have hb:=iH (w:=w) (.cells (qd x c s f v k).toArray 30) (.cells #[.int .u8 (n 0),.int .u8 (n 1),.int .u8 (n 2),.int .u8 (n 3),.int .u8 (n 4),.int .u8 (n 5),.int .u8 (n 6),.int .u8 (n 7)] 31);have Hx:=O hx;have Hw:=O hw;have Hn:=O hn;have H0:=O (⟨e1,e2,hb⟩:OS w x c s f v k n _);clear hx hw hn e1 e2 hb;unfold Fh Nw
 go_enter func5,ntmps5
 go_upto_region 1 with fail
 refine gI (OS w x c s f v k n) H0 ?_;clear H0;rintro w1 h1;have H1:=O h1;clear h1
 go_wp2_with fail
 refine(Mc w1 (Hw.go H1.b)).mono ?_;rintro e Q ⟨rfl,f7⟩;have H2:=O (H1.go f7);clear f7 H1
 go_upto_region 3 with fail
 go_cut [5] (fun pv wx=>∃(g:Nat)(z:gR)(D H zs F:iJ),pv=.pointer (J g)/\hU wx g 37 z D H zs F/\iP (fun b=>b<wx.heap.size) wx z D H zs F/\iI z=true/\Below w w wx)
 case first=>
  obtain⟨d0,d1,d2,d3,d4,d5,d6,d7,d8,d9⟩:=H2.d.cells;obtain⟨a0,a1,a2,a3,a4,a5,a6,a7⟩:=H2.a.cells;have l0:=TK H2.d;have l1:=TK H2.a;refine jw (Q.heap.size) [0,3] 5 (by kernel_rfl) rfl (by kernel_rfl) (by kernel_rfl) (fun _ _ o _ _ h=>by cases o<;>exact h) ?_
  iterate 2
   refine jW (v:=?_) rfl (by rfl) ?_ ?_;rotate_left
   .intro y B
    have y0:=(B.cell (p:=J (w.heap.size)) l0).trans d0;have y1:=(B.cell (p:=⟨w.heap.size,1,none⟩) l0).trans d1;have y2:=(B.cell (p:=⟨w.heap.size,2,none⟩) l0).trans d2;have y3:=(B.cell (p:=⟨w.heap.size,3,none⟩) l0).trans d3;have y4:=(B.cell (p:=⟨w.heap.size,4,none⟩) l0).trans d4;have y5:=(B.cell (p:=⟨w.heap.size,5,none⟩) l0).trans d5;have y6:=(B.cell (p:=⟨w.heap.size,6,none⟩) l0).trans d6;have y7:=(B.cell (p:=⟨w.heap.size,7,none⟩) l0).trans d7;have y8:=(B.cell (p:=⟨w.heap.size,8,none⟩) l0).trans d8;have y9:=(B.cell (p:=⟨w.heap.size,9,none⟩) l0).trans d9;have q0:=(B.cell (p:=J (w+1)) l1).trans a0;have q1:=(B.cell (p:=⟨w.heap.size+1,1,none⟩) l1).trans a1;have q2:=(B.cell (p:=⟨w.heap.size+1,2,none⟩) l1).trans a2;have q3:=(B.cell (p:=⟨w.heap.size+1,3,none⟩) l1).trans a3;have q4:=(B.cell (p:=⟨w.heap.size+1,4,none⟩) l1).trans a4;have q5:=(B.cell (p:=⟨w.heap.size+1,5,none⟩) l1).trans a5;have q6:=(B.cell (p:=⟨w.heap.size+1,6,none⟩) l1).trans a6;have q7:=(B.cell (p:=⟨w.heap.size+1,7,none⟩) l1).trans a7;go_simp
    with_reducible rfl
   try simp only[V]
  refine mB ?_;clear d0 d1 d2 d3 d4 d5 d6 d7 d8 d9 a0 a1 a2 a3 a4 a5 a6 a7;have b5:=O (jA (TH Q Q));generalize Q.drew=wd at*;refine CV (i:=1) (j:=5) (by kernel_rfl) rfl rfl rfl rfl (fun K q=>?_) (fun K q=>?_)
  .go_simp
   refine(zW x c s f v k _ (Hx.kept (gE (I H2.b b5)) (fun b h=>ab h (I H2.b b5).size)) hc).mono ?_;rintro e t ⟨y,yf,yv,ys,yk,yp,N,B,u,-,b6⟩;unfold If at N;subst N;refine q _ _ (b6.mono b5.size) ?_;clear q K
   try simp only[V]
   have e4:=O b5.size;have Hy:=O B;have b3:=O u;have a8:=O (I b5 b6);clear B u b6;refine CV (i:=2) (j:=5) (by kernel_rfl) rfl rfl rfl rfl (fun K q=>?_) (fun K q=>?_)
   .go_simp
    refine q _ _ (TH _ _) ?_;clear q K
    try simp only[V]
    try simp only[I8,dI,dU]
    refine CV (i:=4) (j:=5) (by kernel_rfl) rfl rfl rfl rfl (fun K q=>?_) (fun K q=>?_)
    .go_simp
     refine(ph y yf yv ys yk n t (fun b=>wd.heap.size<=b/\b<t.heap.size) (fun b h=>h.2) Hy b3 Hn).mono ?_;rintro e X ⟨z,D,H,zs,F,N,hat,b0,-,S⟩;unfold jG at N;subst N;have C:Below Q t X:=S.below (fun b h=>af e4 h.1) a8.size;refine q _ _ C ?_;clear q K
     try simp only[V]
     have L:=O (hat.kept (T:=fun b=>b<X.heap.size) (gN.refl _ _) (fun b h=>by
      have h3:=S.size
      obtain h|h:=h
      .exact ab h.2 (by omega)
      .exact h.2))
     have b9:=O b0;have b2:=O (a8.trans C);clear hat b0 S C;refine ia (i:=5) (by kernel_rfl) rfl rfl (fun K q=>?_);go_simp;have r:=(TH X X).alloc (aa _) (.cells #[.string ⟨#[]⟩,oZ,oZ,oZ,oZ,oN,oN,oN,oN] 37);have m:=TL X (.cells #[.string ⟨#[]⟩,oZ,oZ,oZ,oZ,oN,oN,oN,oN] 37);refine q _ _ (r.mono b2.size) ?_;clear q K
     try simp only[V]
     have L:=O (L.kept (T:=fun b=>b<(X.alloc (.cells #[.string ⟨#[]⟩,oZ,oZ,oZ,oZ,oN,oN,oN,oN] 37)).heap.size/\b≠X.heap.size) (gE r) (fun b h=>⟨ab h r.size,Nat.ne_of_lt h⟩));have b8:=O (show Q.heap.size<=X.heap.size from b2.size);have l:=O m;have M:=O (I b2 r);clear m r;generalize X.alloc (.cells #[.string ⟨#[]⟩,oZ,oZ,oZ,oZ,oN,oN,oN,oN] 37)=wz at*;refine mm (i:=6) (by kernel_rfl) rfl rfl (fun K q=>?_);refine ja z D H zs F l rfl rfl (.tmp 5) (.tmp 19) rfl rfl rfl ?_;intro w7 h7 R;have a9:=b8.out;refine q _ _ (by rw[R];exact ig a9 _ _ (TH _ _)) ?_;clear q K
     have A:=O (show iP (fun b=>b<w7.heap.size) w7 z D H zs F by
      rw[R]
      exact L.kept ((gK _ _ 0 _).mono (fun b h=>h.2)) (fun b h=>by rw[im];exact h.1))
     have b1:=O (show Below Q Q w7 by rw[R];exact ig a9 _ _ M);have H7:=O h7;clear h7 R;refine lH (by kernel_rfl) ?_
     try simp only[V]
     go_wp2_with fail
     go_meet;exact⟨_,z,D,H,zs,F,rfl,H7,A,b9,I H2.b b1⟩
    .go_simp
     have r:=(TH t t).alloc (aa _) (.cells #[.string ⟨#[]⟩,oZ,oZ,oZ,oZ,oN,oN,oN,oN] 37);have m:=TL t (.cells #[.string ⟨#[]⟩,oZ,oZ,oZ,oZ,oN,oN,oN,oN] 37);refine q _ _ (r.mono a8.size) ?_;clear q K
     try simp only[V]
     have Hy:=O (Hy.go (E:=fun b=>wd.heap.size<=b/\b<t.heap.size) r (fun b h=>h.2) (fun b h=>h));have b7:=O (Or.inr (aa _):t.heap.size<wd.heap.size\/t.heap.size<=t.heap.size);have e5:=O r.size;have b8:=O (show Q.heap.size<=t.heap.size from a8.size);have l:=O m;have M:=O (I a8 r);clear m r;generalize t.alloc (.cells #[.string ⟨#[]⟩,oZ,oZ,oZ,oZ,oN,oN,oN,oN] 37)=wz at*;refine ia (i:=4) (by kernel_rfl) rfl rfl (fun K q=>?_);go_simp;refine(ph y yf yv ys yk n wz (fun b=>wd.heap.size<=b/\b<t.heap.size) (fun b h=>ab h.2 e5) Hy b3 Hn).mono ?_;rintro e X ⟨z,D,H,zs,F,N,hat,b0,-,S⟩;unfold jG at N;subst N;have C:Below Q wz X:=S.below (fun b h=>af e4 h.1) M.size;refine q _ _ C ?_;clear q K
     try simp only[V]
     have b4:=O (hat.kept (T:=fun b=>b<X.heap.size/\b≠t.heap.size) (gN.refl _ _) (fun b h=>by
      have h1:=TK l;have h2:=b7.out;have h3:=S.size
      obtain h|h:=h
      .exact⟨by have h4:=e5.out;omega,by omega⟩
      .exact⟨h.2,by omega⟩))
     have m:=O ((S.kept _ ⟨TK l,fun h=>by have h2:=b7.out;omega⟩).trans l);have l:=m;have L:=b4;have b9:=O b0;have b2:=O (M.trans C);clear hat b0 S C;refine mm (i:=6) (by kernel_rfl) rfl rfl (fun K q=>?_);refine ja z D H zs F l rfl rfl (.tmp 5) (.tmp 19) rfl rfl rfl ?_;intro w7 h7 R;have a9:=b8.out;refine q _ _ (by rw[R];exact ig a9 _ _ (TH _ _)) ?_;clear q K
     have A:=O (show iP (fun b=>b<w7.heap.size) w7 z D H zs F by
      rw[R]
      exact L.kept ((gK _ _ 0 _).mono (fun b h=>h.2)) (fun b h=>by rw[im];exact h.1))
     have b1:=O (show Below Q Q w7 by rw[R];exact ig a9 _ _ b2);have H7:=O h7;clear h7 R;refine lH (by kernel_rfl) ?_
     try simp only[V]
     go_wp2_with fail
     go_meet;exact⟨_,z,D,H,zs,F,rfl,H7,A,b9,I H2.b b1⟩
   .go_simp
    have r:=(TH t t).alloc (aa _) (.cells #[.string ⟨#[]⟩,oZ,oZ,oZ,oZ,oN,oN,oN,oN] 37);have m:=TL t (.cells #[.string ⟨#[]⟩,oZ,oZ,oZ,oZ,oN,oN,oN,oN] 37);refine q _ _ (r.mono a8.size) ?_;clear q K
    try simp only[V]
    have Hy:=O (Hy.go (E:=fun b=>wd.heap.size<=b/\b<t.heap.size) r (fun b h=>h.2) (fun b h=>h));have b7:=O (Or.inr (aa _):t.heap.size<wd.heap.size\/t.heap.size<=t.heap.size);have e5:=O r.size;have b8:=O (show Q.heap.size<=t.heap.size from a8.size);have l:=O m;have M:=O (I a8 r);clear m r;generalize t.alloc (.cells #[.string ⟨#[]⟩,oZ,oZ,oZ,oZ,oN,oN,oN,oN] 37)=wz at*;refine ia (i:=2) (by kernel_rfl) rfl rfl (fun K q=>?_);go_simp;refine q _ _ (TH _ _) ?_;clear q K
    try simp only[V]
    try simp only[I8,dI,dU]
    refine ia (i:=4) (by kernel_rfl) rfl rfl (fun K q=>?_);go_simp;refine(ph y yf yv ys yk n wz (fun b=>wd.heap.size<=b/\b<t.heap.size) (fun b h=>ab h.2 e5) Hy b3 Hn).mono ?_;rintro e X ⟨z,D,H,zs,F,N,hat,b0,-,S⟩;unfold jG at N;subst N;have C:Below Q wz X:=S.below (fun b h=>af e4 h.1) M.size;refine q _ _ C ?_;clear q K
    try simp only[V]
    have b4:=O (hat.kept (T:=fun b=>b<X.heap.size/\b≠t.heap.size) (gN.refl _ _) (fun b h=>by
     have h1:=TK l;have h2:=b7.out;have h3:=S.size
     obtain h|h:=h
     .exact⟨by have h4:=e5.out;omega,by omega⟩
     .exact⟨h.2,by omega⟩))
    have m:=O ((S.kept _ ⟨TK l,fun h=>by have h2:=b7.out;omega⟩).trans l);have l:=m;have L:=b4;have b9:=O b0;have b2:=O (M.trans C);clear hat b0 S C;refine mm (i:=6) (by kernel_rfl) rfl rfl (fun K q=>?_);refine ja z D H zs F l rfl rfl (.tmp 5) (.tmp 19) rfl rfl rfl ?_;intro w7 h7 R;have a9:=b8.out;refine q _ _ (by rw[R];exact ig a9 _ _ (TH _ _)) ?_;clear q K
    have A:=O (show iP (fun b=>b<w7.heap.size) w7 z D H zs F by
     rw[R]
     exact L.kept ((gK _ _ 0 _).mono (fun b h=>h.2)) (fun b h=>by rw[im];exact h.1))
    have b1:=O (show Below Q Q w7 by rw[R];exact ig a9 _ _ b2);have H7:=O h7;clear h7 R;refine lH (by kernel_rfl) ?_
    try simp only[V]
    go_wp2_with fail
    go_meet;exact⟨_,z,D,H,zs,F,rfl,H7,A,b9,I H2.b b1⟩
  .go_simp
   have r:=(TH wd wd).alloc (aa _) (.cells #[.string ⟨#[]⟩,oZ,oZ,oZ,oZ,oN,oN,oN,oN] 37);have m:=TL wd (.cells #[.string ⟨#[]⟩,oZ,oZ,oZ,oZ,oN,oN,oN,oN] 37);refine q _ _ (r.mono b5.size) ?_;clear q K
   try simp only[V]
   have b8:=O (show Q.heap.size<=wd.heap.size from b5.size);have l:=O m;have M:=O (I b5 r);clear m r;generalize wd.alloc (.cells #[.string ⟨#[]⟩,oZ,oZ,oZ,oZ,oN,oN,oN,oN] 37)=wz at*;refine ia (i:=1) (by kernel_rfl) rfl rfl (fun K q=>?_);go_simp;refine(zW x c s f v k _ (Hx.kept (gE (I H2.b M)) (fun b h=>ab h (I H2.b M).size)) hc).mono ?_;rintro e t ⟨y,yf,yv,ys,yk,yp,N,B,u,-,b6⟩;unfold If at N;subst N;refine q _ _ (b6.mono M.size) ?_;clear q K
   try simp only[V]
   have e4:=O M.size;have m:=O ((b6.block _ (TK l)).trans l);have b7:=O (Or.inl (TK l):wd.heap.size<wz.heap.size\/t.heap.size<=wd.heap.size);have l:=m;have Hy:=O B;have b3:=O u;have a8:=O (I M b6);clear B u b6;refine ia (i:=2) (by kernel_rfl) rfl rfl (fun K q=>?_);go_simp;refine q _ _ (TH _ _) ?_;clear q K
   try simp only[V]
   try simp only[I8,dI,dU]
   refine ia (i:=4) (by kernel_rfl) rfl rfl (fun K q=>?_);go_simp;refine(ph y yf yv ys yk n t (fun b=>wz.heap.size<=b/\b<t.heap.size) (fun b h=>h.2) Hy b3 Hn).mono ?_;rintro e X ⟨z,D,H,zs,F,N,hat,b0,-,S⟩;unfold jG at N;subst N;have C:Below Q t X:=S.below (fun b h=>af e4 h.1) a8.size;refine q _ _ C ?_;clear q K
   try simp only[V]
   have b4:=O (hat.kept (T:=fun b=>b<X.heap.size/\b≠wd.heap.size) (gN.refl _ _) (fun b h=>by
    have h1:=TK l;have h2:=b7.out;have h3:=S.size
    obtain h|h:=h
    .exact⟨by omega,by omega⟩
    .exact⟨h.2,by omega⟩))
   have m:=O ((S.kept _ ⟨TK l,fun h=>by have h2:=b7.out;omega⟩).trans l);have l:=m;have L:=b4;have b9:=O b0;have b2:=O (a8.trans C);clear hat b0 S C;refine mm (i:=6) (by kernel_rfl) rfl rfl (fun K q=>?_);refine ja z D H zs F l rfl rfl (.tmp 5) (.tmp 19) rfl rfl rfl ?_;intro w7 h7 R;have a9:=b8.out;refine q _ _ (by rw[R];exact ig a9 _ _ (TH _ _)) ?_;clear q K
   have A:=O (show iP (fun b=>b<w7.heap.size) w7 z D H zs F by
    rw[R]
    exact L.kept ((gK _ _ 0 _).mono (fun b h=>h.2)) (fun b h=>by rw[im];exact h.1))
   have b1:=O (show Below Q Q w7 by rw[R];exact ig a9 _ _ b2);have H7:=O h7;clear h7 R;refine lH (by kernel_rfl) ?_
   try simp only[V]
   go_wp2_with fail
   go_meet;exact⟨_,z,D,H,zs,F,rfl,H7,A,b9,I H2.b b1⟩
 case rest=>
  obtain⟨g,z,D,H,zs,F,rfl,hz,hat,u,g1⟩:=hcut;have g6:=hat.wf;have f2:=Gf u;have g3:=Mt u g6;have g4:=OR u
  have g5:∀W,KW W-> ∀f v s k,iP (fun b=>b<W.heap.size) W z f v s k->Calls prog 11 #[jG z f v s k] W (iZ W (.tuple #[.string (bs (nO z)),oZ])):=fun W hW f v s k ha=>by
   rw[<- g4];exact CB z f v s k W ha hW.g hW.P hW.T (fun _=>by omega)
  have g2:∀W,KW W->Calls prog 18 #[.string (bs (nO z))] W (ye W ⟨z,0,0⟩):=fun W hW=>by
   rw[<- g3];exact vE (nO z) W hW.g hW.T hW.P (by omega)
  have i0:(bs (nO z)).size<=20000:=by rw[Pw];exact f2
  clear g3 g4 g6;generalize nO z=T at*;have Hz:=O hz;have L:=O hat;have e3:=O g1;have f0:=O g5;have f5:=O g2;clear hz hat g1 g5 g2 u H2
  go_wp2_with(refine it Hz rfl (.tmp 5) rfl rfl ?_)
  refine(f0 _ (Hw.go e3) D H zs F L).mono ?_;rintro e w4 ⟨rfl,f8⟩;have e9:=O f8;clear f8
  go_wp2_with fail
  refine(f5 _ (Hw.go (I e3 e9))).mono ?_;rintro e w5 ⟨f',v',s',k',N,hL,f9⟩;unfold jG at N;subst N;have HL:=O hL;have f3:=O (I e9 f9);clear hL f9 e9
  go_upto_region 6 with fail
  refine gI (fun wx=>hU wx w5 37 z f' v' s' k'/\Below w5 w5 wx) ⟨TL w5 _,gY (TH _ _)⟩ ?_;rintro w6 ⟨h8,f1⟩;have e0:=O (I f3 f1);have H8:=O h8;have e8:=O (HL.go f1);have f6:=O (Hz.go e0);have e6:=O (L.go e0);have f4:=O (Hw.go (I e3 e0));clear h8 f1 HL Hz L f3
  go_wp2_with(refine it H8 rfl (.tmp 8) rfl rfl ?_)
  refine(f0 _ f4 f' v' s' k' e8).mono ?_;rintro e w7 ⟨rfl,c9⟩;have g7:=O (H8.go c9);have g8:=O (e8.go c9);have h0:=O (f6.go c9);have A:=O (e6.go c9);have b1:=O (I e3 (I e0 c9));clear c9 H8 e8 f6 e6 f4 e0 e3 f0 f5
  have h5:((bs T).size:Int)<=20000:=by omega
  have h6:(T.length:Int)<=20000:=by omega
  have h9:decide (((bs T).size:Int)<=20000)=true:=aP h5;obtain⟨c0,c1,c2,c3,c4,c5,c6,c7,c8⟩:=h0.cells;obtain⟨d0,d1,d2,d3,d4,d5,d6,d7,d8⟩:=g7.cells
  go_wp2_with fail
  refine(xw z D H zs F f' v' s' k' w7 A g8).mono ?_;rintro e w8 ⟨rfl,g0⟩;have g9:=O g0;clear g0;clear c0 c1 c2 c3 c4 c5 c6 c7 c8 d0 d1 d2 d3 d4 d5 d6 d7 d8
  go_wp2_with fail
  go_ret;exact⟨rfl,I b1 g9⟩
end Go.Proofs.YtgohdcccfkjooaaGreatDoor
