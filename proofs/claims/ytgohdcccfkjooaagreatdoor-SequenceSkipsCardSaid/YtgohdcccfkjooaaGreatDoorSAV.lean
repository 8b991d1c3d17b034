import Derived.Test.YtgohdcccfkjooaaGreatDoorSAU
import Derived.Test.YtgohdcccfkjooaaGreatDoorSAS
namespace Go.Proofs.YtgohdcccfkjooaaGreatDoor
set_option linter.all false
set_option maxRecDepth 100000
set_option maxHeartbeats 12800000
open Go.Proofs.Tryz Go.RowKit
def TN{ops b e d w}{Q:Exit->Act->World->Prop}{g T x f v s k}(h:hU w g T x f v s k)(i:Region.wanted e (yielded ops d.tmps)=true)(y)(m:e.op=.load 37 y)(o:d.eval y=.pointer (J g))(l:wpList prog ops Q b (d.put e.dst (.agg #[x.nm,x.i6,x.p9,x.stop,x.prim,Z f.a f.n f.c,Z v.a v.n v.c,Z s.a s.n s.c,Z k.a k.n k.c])) w):wpList prog ops Q (e::b) d w:=
 pV i fun K j=>wp_load_mid 37 y m g 0 o (iw x f v s k) _ h.range underlying37 rfl Tryz.infoLens (j _ _ l)
def Ow(S:Nat->Prop)(w):iP S w mG ij ij ij ij:=
 ⟨IRp.nil _ _ _ _ _,IRp.nil _ _ _ _ _,RR.nil _ _ _ _ _ _,RR.nil _ _ _ _ _ _,by decide,by decide,by decide,by decide,fun _=>rfl,fun _=>rfl,by decide⟩
structure KW (w:World):Prop where
 g:GW w
 P:jY w w
 T:TW w w
def TW.go{w w':World}(h:TW w w)(a:Below w w w'):TW w' w':=(h.below a).mono a.size
def KW.go{w w'}(h:KW w)(a:Below w w w'):KW w':=⟨h.g.below a,h.P.go a,h.T.go a⟩
def CE(t x)(h:nr t=⟨x,0,0⟩)(f v s k w)(R:iP (fun b=>b<w.heap.size) w x f v s k)(hw:KW w)(ht:t.length<=100000):
 Calls prog 22 #[.string (bs t),jG x f v s k] w (iZ w (.bool true)):=by
 have p:Below w w (w.alloc (.cells (iw x f v s k).toArray 37)):=(TH w w).alloc (aa _) _;have i:hU (w.alloc (.cells (iw x f v s k).toArray 37)) w 37 x f v s k:=TL w _;have Hx:=O R;have z:=O hw;have l:=O p;have d:=O i;have H:=O h;clear R hw p i h;unfold jG;go_enter func22,ntmps22;go_upto_region 1 with fail;refine gI (fun X=>hU X w 37 x f v s k/\Below w w X) ⟨d,l⟩ ?_;clear d l;rintro A ⟨M,a⟩
 have Q:Calls prog 18 #[.string (bs t)] A (ye A ⟨x,0,0⟩):=by
  rw[<- H];exact vE t A (z.go a).g (z.go a).T (z.go a).P ht
 have Hp:=O Q;have H9:=O M;have m:=O a;clear Q M a H
 go_wp2_with(first
  |(refine Hp.mono ?_;rintro e B ⟨L,S,s',k',rfl,N,q⟩;unfold jG;have HL:=O N;have j:=O q;clear N q)
  |(refine ja x L S s' k' (TL B _) rfl rfl (.tmp 5) (.tmp 11) rfl rfl rfl ?_;intro W h3 u;have c:Below B B W:=(by rw[u];exact ig (aa _) _ _ ((TH _ _).alloc (aa _) _));have o:=HL.go c;have y:=Hx.go (I (I m j) c);have n:=hU.go (hU.go H9 j) c;have H3:=O h3;have D:=O o;have K:=O y;have C:=O n;have E:=O (I (I m j) c);clear h3 u c o y n)
  |(refine TN H3 rfl (.tmp 5) rfl rfl ?_)
  |(refine TN C rfl (.tmp 3) rfl rfl ?_)
  |(refine(xw x L S s' k' f v s k W D K).mono ?_;rintro e w4 ⟨rfl,r⟩;have F:=O r;clear r))
 go_ret;exact⟨rfl,I E F⟩
def rX(t line a)(h:pU t line a)(w)(hw:KW w)(y:t.length<=100000):
 Calls prog 23 #[.string (bs t),line,a] w (iZ w (.bool true)):=by
 have q:Calls prog 18 #[.string (bs t)] w (ye w ⟨mG,line,a⟩):=by
  unfold pU at h;rw[<- h];exact vE t w hw.g hw.T hw.P y
 have x:=O q;clear q hw h;go_enter func23,ntmps23
 go_wp2_with(first
  |(refine x.mono ?_;rintro e j ⟨o,r,s',k',rfl,p,d⟩;unfold jG;have v:=O p;have l:=O d;clear p d)
  |(refine ja mG o r s' k' (TL j _) rfl rfl (.tmp 7) (.tmp 13) rfl rfl rfl ?_;intro s h3 i;have b:Below j j s:=(by rw[i];exact ig (aa _) _ _ ((TH _ _).alloc (aa _) _));have c:=v.go b;have u:=O h3;have k:=O c;have m:=O (I l b);clear h3 i b c)
  |(refine TN u rfl (.tmp 7) rfl rfl ?_)
  |(refine(xw mG o r s' k' ij ij ij ij s k (Ow _ _)).mono ?_;rintro e z ⟨rfl,f⟩;have n:=O f;clear f))
 go_ret;exact⟨rfl,I m n⟩
def CD(w):Calls prog 44 #[] w fun e w'=>e=.returned (.slice (J (w.heap.size)) 12 12)/\w'=w.alloc (.cells (ji jq).toArray 9):=by
 go_enter func44,ntmps44;go_wp2_with fail;go_ret;exact⟨rfl,rfl⟩
def AD:∀(ws:List (List UInt8)),ws≠[]->rm ws=Lib.join ws [10]++[10]
 |[],h=>absurd rfl h
 |[a],_=>by unfold rm;simp[Lib.join]
 |a::b::r,_=>by
  have h:=AD (b::r) (by simp)
  have e:rm (a::b::r)=(a++[10])++rm (b::r):=by unfold rm;simp
  rw[e,h];simp[Lib.join,Lib.joinTail]
def xx(ws g off c w)(h:∀i x,ws[i]? =some x->w.cell? ⟨g,off+i,none⟩=some (.string (bs x)))(s:g<w.heap.size)(u:ws.length<=c)(v:ws.length<=1000000)(q:(rm ws).length<=1000000)(h0:ws≠[]):
 Calls prog 21 #[Z (some ⟨g,off,none⟩) ws.length c] w (iZ w (.string (bs (rm ws)))):=by
 have k:(ws.map bs).map (fun b=>b.data.toList)=ws:=by rw[dD];exact fY (fun x=>rfl) ws
 have d:∀(j:Nat) x,(ws.map bs)[j]? =some x->w.cell? ⟨g,off+j,none⟩=some (.string x):=fun j x l=>by
  rw[aR]at l
  cases hw:ws[j]? with
  |none=>rw[hw]at l;cases l
  |some y=>rw[hw]at l;cases l;exact h j y hw
 have o:=AD ws h0
 have r:(Lib.join ws [10]).length<=1000000:=by rw[o,al]at q;omega
 have key:=Tryz.strings_Join g off c (ws.map bs) {data:=#[10]} w d s (by rw[aU];omega) (by rw[aU];omega) (by rw[k];show(Lib.join ws [10]).length<=_;omega);rw[aU,k]at key
 have a:bs (Lib.join ws [10])++({data:=#[10]}:ByteArray)=bs (rm ws):=by rw[o];exact oQ _ [10]
 have m:=O key;have f:=O a;clear h d k key a o q;go_enter func21,ntmps21;go_wp2_with fail;refine m.mono ?_;rintro e z ⟨rfl,n⟩;have p:=O n;clear n m
 change (Lib.join ws [10]).length<=1000000 at r
 have a:=f.out;clear f
 have t:¬9223372036854775807<(Lib.join ws [10]).length+1:=by omega
 have f:=O a;clear a;go_wp2_with fail;go_ret;exact⟨by rw[<- f];rfl,p⟩
def uj{W:World}{N ws}(h:W.heap[N]? =some (.cells (ji ws).toArray 9 (0,0)))(j x)(a:ws[j]? =some x):W.cell? ⟨N,j,none⟩=some (.string (bs x)):=by
 rw[gA h j,bo];unfold ji;rw[aR,a];rfl
def lU{o:Oper}{a}{K:Act->World->Prop}{Q:Exit->Act->World->Prop}{w}(s x t)(r:o.op=.call {callee:=.builtin .append,args:=#[s,x],argTypes:=#[t,t]})(ht:prog.underlying t=some (.slice 9))(base v n l ys)(hs:a.eval s=v)(hown:w.ownsRow base 9 1 v n (ji l))(sp m c)(hx:a.eval x=.slice sp m c)(hys:ys.length=m)(hnews:0<m-> ∃b off,sp=some ⟨b,off,none⟩/\ ∀(j:Nat) y,ys[j]? =some y->w.cell? ⟨b,off+j,none⟩=some (.string (bs y)))(hmn:sp=none->m=0/\c=0)(hnm:n+m<=1000000)(hbase:base<=w.heap.size)(h:∀f w',w'.ownsRow base 9 1 f (n+m) (ji (l++ys))->w.grownBy w' v.ownBlock->K (a.put o.dst f) w'):o.wp prog a w K Q:=by
 obtain⟨i,g,k,p,q⟩:=sd Tryz.infoStr
 cases sp with
 |none=>
  obtain⟨rfl,rfl⟩:=hmn rfl;obtain rfl:ys=[]:=aX.1 hys;have e:=run_append_owned_none (P:=prog) (w:=w) base t o.type _ i 1 ht g v n (ji l) hown;unfold Oper.wp execOp;simp only[r,resolve,invoke,builtin,bR,cT,bU,List.map_toArray,aN,bI,hs,hx,e];exact h v w (by simpa using hown) ⟨rfl,rfl,rfl,aa _,fun _ _ _=>rfl⟩
 |some z=>
  obtain⟨f,w',D,h2,h3,_,_⟩:=run_append_own_at (P:=prog) w base t o.type _ i (.string {data:=#[]}) 1 16 ht g k p q (by simp[Value.cells]) (by omega) v n (ji l) hown z m c (ji ys) (by rw[xo,hys,dn]) (fun j u d=>by
   by_cases C:0<m
   .obtain⟨b,off,B,A⟩:=hnews C
    obtain rfl:=aE B;unfold ji at d;rw[aR]at d
    cases hy:ys[j]? with
    |none=>rw[hy]at d;cases d
    |some y=>
     rw[hy]at d;cases d;have:=A j y hy;unfold Addr.add;by_cases h0:j=0
     .subst h0;simpa using this
     .simpa[h0]using this
   .have:ys.length=0:=by omega
    rw[aX.1 this]at d;cases d) (by unfold ji;simp[Value.oneCell']) (by unfold maxLen;omega) (by omega) hbase
  unfold Oper.wp execOp;simp only[r,resolve,invoke,builtin,bR,cT,bU,List.map_toArray,aN,bI,hs,hx,D];rw[<- Du]at h2;exact h f w' h2 h3
def rW(i)(hi:i<12)(ws a n c w)(hw:ua w a n c ws w)(hn:n<=10)(hl:(wJ i ws).length<=1000000)(M:a=none->c=0)(a1:jq.take i++ws++jq.drop (i+1)≠[]):
 Calls prog 24 #[.int .i64 (i:Int),Z a n c] w (iZ w (.string (bs (wJ i ws)))):=by
 have X:=O hw;have Hl:=O hl;have L:=O a1;have a0:=hw.1;clear hw hl a1
 have b1:(i:Int) <12:=by omega
 have b5:IntKind.i64.wrap ((i:Int)+1)=(i:Int)+1:=TM _ (by omega)
 have b3:(i:Int)+1<=12:=by omega
 have b4:(i:Int)<=12:=by omega
 have b2:(0:Int)<=(i:Int)+1:=by omega
 go_enter func24,ntmps24
 go_wp2_with(refine(CD _).mono ?_;rintro e w1 ⟨rfl,rfl⟩)
 by_cases a2:i=11
 .subst a2
  have b0:IntKind.i64.wrap 12=12:=TM _ (by omega);refine kC (S:=fun _=>False) 13 [(1,true),(2,true),(3,true),(5,true),(7,true),(8,true),(9,true),(10,true),(0,false),(4,false),(6,false),(11,false),(12,false)] (by kernel_rfl) (by kernel_rfl) ?_
  iterate 8
   refine kQ (v:=?_) ?_ ?_;rotate_left
   .intro y l
    skip;go_simp;with_reducible rfl
   try simp only[V]
  refine iT (fun K f=>?_);go_simp;refine f _ _ (fun x m=>m.elim) ?_;clear f K;(try simp only[V]);have N:(w.alloc (.cells (ji jq).toArray 9)).heap[w.heap.size]? =some (.cells (ji jq).toArray 9 (0,0)):=TL w _;have t:Below w w (w.alloc (.cells (ji jq).toArray 9)):=(TH _ _).alloc (aa _) _
  have W:(w.alloc (.cells (ji jq).toArray 9)).heap.size=w.heap.size+1:=by simp
  have b:=World.ownsRow_made (e:=9) (size:=1) (base:=w.heap.size+1) (w.alloc (.cells (ji jq).toArray 9)) #[] 0 (by omega) (by unfold maxLen;omega) rfl;rw[W]at b;have o:Below (w+1) (w.alloc (.cells (ji jq).toArray 9)) ((w.alloc (.cells (ji jq).toArray 9)).alloc (.cells #[] 9)).drew:=((TH _ _).alloc (by omega) _).drew;have a5:=o.size;refine iT (fun K f=>?_)
  refine lU _ _ _ rfl underlying52 (w+1) _ 0 [] (jq.take 11) rfl b _ 11 12 rfl (by rw[bn];show min 11 12=11;omega) (fun _=>⟨w.heap.size,0,rfl,fun j y l=>by
   rw[aV]
   exact(o.cell (p:=⟨w.heap.size,j,none⟩) (by show w.heap.size<w.heap.size+1;omega)).trans (uj N j y (by
    have hj:=(TG.1 l).1;rw[bn]at hj
    rw[gd (by omega)]at l;exact l))⟩) (by intro e;cases e) (by omega) (by omega) ?_
  intro v2 W2 d C;refine f _ _ (fun x m=>m.elim) ?_;clear f K;(try simp only[V]);have q:=o.grown C (by omega) (fun k e=>(b.lt k e).1);have a6:=q.size;rw[aV,bD]at d;have F:=t.trans (q.mono (by omega));refine iT (fun K f=>?_)
  refine lU _ _ _ rfl underlying52 (w+1) _ 11 (jq.take 11) ws rfl d a n c rfl a0 (fun h0=>by
   obtain⟨R,off,e,hlt,T⟩:=X.2.2 h0
   exact⟨R,off,e,fun j y l=>(F.cell (p:=⟨R,off+j,none⟩) hlt).trans (T j y l)⟩) (fun e=>⟨by have:=X.2.1;have:=M e;omega,M e⟩) (by omega) (by omega) ?_
  intro v3 W3 g D;refine f _ _ (fun x m=>m.elim) ?_;clear f K;(try simp only[V]);have s:=q.grown D (by omega) (fun k e=>(d.lt k e).1);have a7:=s.size;refine iT (fun K f=>?_)
  refine lU _ _ _ rfl underlying52 (w+1) _ (11+n) (jq.take 11++ws) (jq.drop (11+1)) rfl g _ (0) (0) rfl (by rw[eQ];show 12-(11+1)=0;omega) (fun _=>⟨w.heap.size,0,rfl,fun j y l=>by
   rw[cp]at l
   have h1:=(TG.1 l).1;have h2:jq.length=12:=rfl;omega⟩) (by intro e;cases e) (by omega) (by omega) ?_
  intro v4 W4 h E;refine f _ _ (fun x m=>m.elim) ?_;clear f K;(try simp only[V]);have A:=s.grown E (by omega) (fun k e=>(g.lt k e).1);have H:=t.trans (A.mono (by omega));obtain⟨a4,c4,rfl⟩:=kx h;obtain⟨g4,rfl,_,z,u,a3,r⟩:=tZ h (ez.2 L);have key:=xx (jq.take 11++ws++jq.drop (11+1)) g4 0 c4 W4 (fun j y l=>r j (bs y) (by rw[aR,l];rfl)) z (by omega) (by rw[<- u];omega) Hl L;rw[<- u]at key;have Q:=O key;clear key u;refine iT (fun K f=>?_);go_simp;refine Q.mono ?_;rintro e W5 ⟨rfl,B⟩;refine f _ _ (fun x m=>m.elim) ?_;clear f K;(try simp only[V]);refine nK rfl ?_;have P:=O (I H B);clear B H A s q o F t r h g d b N C D E;go_wp2_with fail;go_ret;exact⟨by first|rfl|(unfold wJ;rw[aC];rfl),P⟩
 .refine kC (S:=fun _=>False) 13 [(1,true),(2,true),(3,true),(5,true),(7,true),(8,true),(9,true),(10,true),(0,false),(4,false),(6,false),(11,false),(12,false)] (by kernel_rfl) (by kernel_rfl) ?_
  have a8:¬12=i+1:=by omega
  have a9:¬i+1=12:=by omega
  iterate 8
   refine kQ (v:=?_) ?_ ?_;rotate_left
   .intro y l
    skip;go_simp;with_reducible rfl
   try simp only[V]
  refine iT (fun K f=>?_);go_simp;refine f _ _ (fun x m=>m.elim) ?_;clear f K;(try simp only[V]);have N:(w.alloc (.cells (ji jq).toArray 9)).heap[w.heap.size]? =some (.cells (ji jq).toArray 9 (0,0)):=TL w _;have t:Below w w (w.alloc (.cells (ji jq).toArray 9)):=(TH _ _).alloc (aa _) _
  have W:(w.alloc (.cells (ji jq).toArray 9)).heap.size=w.heap.size+1:=by simp
  have b:=World.ownsRow_made (e:=9) (size:=1) (base:=w.heap.size+1) (w.alloc (.cells (ji jq).toArray 9)) #[] 0 (by omega) (by unfold maxLen;omega) rfl;rw[W]at b;have o:Below (w+1) (w.alloc (.cells (ji jq).toArray 9)) ((w.alloc (.cells (ji jq).toArray 9)).alloc (.cells #[] 9)).drew:=((TH _ _).alloc (by omega) _).drew;have a5:=o.size;refine iT (fun K f=>?_)
  refine lU _ _ _ rfl underlying52 (w+1) _ 0 [] (jq.take i) rfl b _ i 12 rfl (by rw[bn];show min i 12=i;omega) (fun _=>⟨w.heap.size,0,rfl,fun j y l=>by
   rw[aV]
   exact(o.cell (p:=⟨w.heap.size,j,none⟩) (by show w.heap.size<w.heap.size+1;omega)).trans (uj N j y (by
    have hj:=(TG.1 l).1;rw[bn]at hj
    rw[gd (by omega)]at l;exact l))⟩) (by intro e;cases e) (by omega) (by omega) ?_
  intro v2 W2 d C;refine f _ _ (fun x m=>m.elim) ?_;clear f K;(try simp only[V]);have q:=o.grown C (by omega) (fun k e=>(b.lt k e).1);have a6:=q.size;rw[aV,bD]at d;have F:=t.trans (q.mono (by omega));refine iT (fun K f=>?_)
  refine lU _ _ _ rfl underlying52 (w+1) _ i (jq.take i) ws rfl d a n c rfl a0 (fun h0=>by
   obtain⟨R,off,e,hlt,T⟩:=X.2.2 h0
   exact⟨R,off,e,fun j y l=>(F.cell (p:=⟨R,off+j,none⟩) hlt).trans (T j y l)⟩) (fun e=>⟨by have:=X.2.1;have:=M e;omega,M e⟩) (by omega) (by omega) ?_
  intro v3 W3 g D;refine f _ _ (fun x m=>m.elim) ?_;clear f K;(try simp only[V]);have s:=q.grown D (by omega) (fun k e=>(d.lt k e).1);have a7:=s.size;refine iT (fun K f=>?_)
  refine lU _ _ _ rfl underlying52 (w+1) _ (i+n) (jq.take i++ws) (jq.drop (i+1)) rfl g _ (11-i) (11-i) rfl (by rw[eQ];show 12-(i+1)=11-i;omega) (fun _=>⟨w.heap.size,i+1,rfl,fun j y l=>by
   rw[cp]at l
   exact(s.cell (p:=⟨w.heap.size,i+1+j,none⟩) (by show w.heap.size<w.heap.size+1;omega)).trans (uj N (i+1+j) y l)⟩) (by intro e;cases e) (by omega) (by omega) ?_
  intro v4 W4 h E;refine f _ _ (fun x m=>m.elim) ?_;clear f K;(try simp only[V]);have A:=s.grown E (by omega) (fun k e=>(g.lt k e).1);have H:=t.trans (A.mono (by omega));obtain⟨a4,c4,rfl⟩:=kx h;obtain⟨g4,rfl,_,z,u,a3,r⟩:=tZ h (ez.2 L);have key:=xx (jq.take i++ws++jq.drop (i+1)) g4 0 c4 W4 (fun j y l=>r j (bs y) (by rw[aR,l];rfl)) z (by omega) (by rw[<- u];omega) Hl L;rw[<- u]at key;have Q:=O key;clear key u;refine iT (fun K f=>?_);go_simp;refine Q.mono ?_;rintro e W5 ⟨rfl,B⟩;refine f _ _ (fun x m=>m.elim) ?_;clear f K;(try simp only[V]);refine nK rfl ?_;have P:=O (I H B);clear B H A s q o F t r h g d b N C D E;go_wp2_with fail;go_ret;exact⟨by first|rfl|(unfold wJ;rw[aC];rfl),P⟩
def IQ{P g}{e:Act}{y b T x f v s k d}(h:hU y b T x f v s k)(l:P.underlying 37=some d)(i:d.isRow=true)(hi:(P.info? 37).map (·.size)=some 9)(z)(j:g.op=.load 37 z)(m:e.eval z=.pointer (J b)):(execOp e.eval g).run P y=.ok (.value (.agg #[x.nm,x.i6,x.p9,x.stop,x.prim,Z f.a f.n f.c,Z v.a v.n v.c,Z s.a s.n s.c,Z k.a k.n k.c])) y:=by
 unfold execOp;simp only[j,m,Instr.loadAt,Instr.sureAddr,bR,cT,bU,run_loadVar_mid y b 0 37 (iw x f v s k) d h.range l i hi];rfl
def Br{ops}{Q:Exit->Act->World->Prop}{N i j fs}{C:Nat->Prop}{d g e}{w:World}(hi:ops.toList[i]? =some g)(l:j.contains i=false)(hw:Region.wanted g (yielded ops e.tmps)=true){b T x f v s k}(h:∀y,Below w w y->hU y b T x f v s k)(z)(o:g.op=.load 37 z)(p:e.eval z=.pointer (J b))(m:Bx prog ops Q N j fs C d (e.put g.dst (.agg #[x.nm,x.i6,x.p9,x.stop,x.prim,Z f.a f.n f.c,Z v.a v.n v.c,Z s.a s.n s.c,Z k.a k.n k.c])) w):Bx prog ops Q N j fs C ((i,true)::d) e w:=
 gZ (fun y q=>IQ (h y q) underlying37 rfl Tryz.infoLens z o p) m hi l hw
def IS:wI tq=.tuple #[.string (bs (rm jq)),oZ]:=by
 unfold wI;rw[IN,aq rfl,aq rfl,CC]
def IT(N w0 w)(h:AB N w0 w)(hw:KW w):Calls prog 11 #[Ov N] w (iZ w (.tuple #[.string (bs (rm jq)),oZ])):=by
 rw[<- IS];exact CB tq _ _ _ _ w (h.lens.kept (gN.refl _ _) (fun b a=>a.2)) hw.g hw.P hw.T (fun _=>by rw[CC];exact bx (by kernel_rfl))
def Bs{N}{w w':World}(h:Below w w w'):gN (fun b=>N<=b/\b<w.heap.size) w w':=fun b a=>h.block b a.2
def yR{W N ws}(h:W.heap[N]? =some (.cells (ji ws).toArray 9 (0,0))):ua W (J N) ws.length ws.length ws W:=
 ⟨rfl,aa _,fun _=>⟨N,0,rfl,TK h,fun i x a=>by rw[aV];exact uj h i x a⟩⟩
def IU{N w w'}(h:AB N w w'){W}(g:Below w' w' W):iP (fun b=>b<(W.setCell ⟨N+3,1,none⟩ (.int .i64 10000000)).heap.size) (W.setCell ⟨N+3,1,none⟩ (.int .i64 10000000)) wK ⟨some ⟨N+1,0,none⟩,2,2⟩ ⟨some ⟨N+2,0,none⟩,1,1⟩ ⟨some ⟨N+3,0,none⟩,2,2⟩ ij:=by
 have r:=h.sz;have q:=g.size
 have p:(W.setCell ⟨N+3,1,none⟩ (.int .i64 10000000)).heap.size=W.heap.size:=by simp
 have hf:=(iS (u:=.int .i64 10000000) (j:=1) (show N+1≠N+3 by omega)).trans ((g.block (N+1) (by omega)).trans h.f);have a:=(iS (u:=.int .i64 10000000) (j:=1) (show N+2≠N+3 by omega)).trans ((g.block (N+2) (by omega)).trans h.v);have l:=gG ((g.block (N+3) (by omega)).trans h.s) 1 (.int .i64 10000000);have k:(W.setCell ⟨N+3,1,none⟩ (.int .i64 10000000)).heap[N+3]? =some (.cells (gX {(ui 10000000).s with curv:=10000000} none 0 0++gX (ui 0).s none 0 0).toArray 70 (0,0)):=l
 refine⟨⟨rfl,aa _,fun _=>⟨N+1,0,rfl,by omega,fun j d=>?_⟩⟩,⟨rfl,aa _,fun _=>⟨N+2,0,rfl,by omega,fun j d=>?_⟩⟩,
  ⟨rfl,aa _,fun _=>⟨N+3,0,rfl,by omega,fun i y c=>?_⟩⟩,RR.nil _ _ _ _ _ _,by show(2:Nat)<=_;omega,by show(1:Nat)<=_;omega,by show(2:Nat)<=_;omega,by decide,fun e=>(by cases e),fun e=>(by cases e),by decide⟩
 .have n:j<4:=d
  match j,n with
  |0,_=>exact gA hf 0
  |1,_=>exact gA hf 1
  |2,_=>exact gA hf 2
  |3,_=>exact gA hf 3
  |j+4,d=>omega
 .have m:j<2:=d
  match j,m with
  |0,_=>exact gA a 0
  |1,_=>exact gA a 1
  |j+2,d=>omega
 .match i,c with
  |0,c=>
   cases c
   exact⟨_,⟨none,0,0,rfl,IRp.nil _ _ _ _ _,by decide,fun _=>rfl,by decide⟩,fun j v a=>by
    have o:=(TG.1 a).1;rw[gA k,bo]
    show(gX _ none 0 0++gX _ none 0 0)[0+0*22+j]? =_
    rw[show 0+0*22+j=j by omega,aF o];exact a⟩
  |1,c=>
   cases c
   exact⟨_,⟨none,0,0,rfl,IRp.nil _ _ _ _ _,by decide,fun _=>rfl,by decide⟩,fun j v a=>by
    rw[gA k,bo]
    show(gX _ none 0 0++gX _ none 0 0)[0+1*22+j]? =_
    rw[aY (by show 22<=_;omega)]
    show(gX _ none 0 0)[0+1*22+j-22]? =_
    rw[show 0+1*22+j-22=j by omega];exact a⟩
  |i+2,c=>cases c
def Mc(w)(hw:KW w):Calls prog 13 #[] w (iZ w (.bool true)):=by
 have Hw:=O hw;clear hw;go_enter func13,ntmps13;go_wp2_with fail;refine(AC w).mono ?_;rintro e w1 ⟨rfl,hf⟩;have ht:=IT w w w1 hf (Hw.go hf.be);generalize Ov w=Vq0 at*;have Ht:=O ht;have Hf:=O hf;clear ht hf;obtain⟨T0,d4⟩:∃T0,rm jq=T0:=⟨_,rfl⟩;rw[d4]at Ht;have d3:=O d4;clear d4
 go_wp2_with(refine Ht.mono ?_;rintro e d ⟨rfl,g0⟩;have f5:=O g0;clear g0)
 refine(AC d).mono ?_;rintro e w3 ⟨rfl,F⟩;have g:=O F;clear F
 go_upto_region 3 with(refine ja tq ⟨some ⟨d.heap.size+1,0,none⟩,2,2⟩ ⟨some ⟨d.heap.size+2,0,none⟩,1,1⟩ ⟨some ⟨d.heap.size+3,0,none⟩,2,2⟩ ij (TL w3 _) rfl rfl (.tmp 3) (.tmp 11) rfl rfl rfl ?_;intro L h4 h8;have i:Below w3 w3 L:=(by rw[h8];exact ig (aa _) _ _ ((TH _ _).alloc (aa _) _));have H4:=O h4;have a5:=O i;clear h4 i h8)
 have h7:=g.sz;have c7:L.cell? ⟨w3.heap.size,7,none⟩=some (.slice (J (d+3)) 2 2):=gA H4 7;have hS:=(a5.block (d+3) (by omega)).trans g.s;have d1:L.cell? ⟨d.heap.size+3,1,none⟩=some (.int .i64 0):=gA hS 1;have g1:L.frozen? ⟨d.heap.size+3,1,none⟩=false:=gD hS 1;have HS:=O hS;clear hS;have i9:=O h7;clear h7;go_wp2_with fail;have hL:=IU g a5;have hB:hU (L.setCell ⟨d.heap.size+3,1,none⟩ (.int .i64 10000000)) w3 37 wK ⟨some ⟨d.heap.size+1,0,none⟩,2,2⟩ ⟨some ⟨d.heap.size+2,0,none⟩,1,1⟩ ⟨some ⟨d.heap.size+3,0,none⟩,2,2⟩ ij:=(iS (by have:=i9.out;omega)).trans H4
 have d5:Below w w (L.setCell ⟨d.heap.size+3,1,none⟩ (.int .i64 10000000)):=by
  have h1:=Hf.be;have h2:=I h1 f5;have h3:=I h2 g.be;exact kZ (I h3 a5) (by have:=h2.size;omega)
 clear c7 d1 g1;generalize L.setCell ⟨d.heap.size+3,1,none⟩ (.int .i64 10000000)=W5 at*;have HL:=O hL;have c:=O hB;have f6:=O d5;have f3:=O (Hw.go d5);clear hL hB d5 HS a5 H4 g f5 Hf Ht;refine(CD W5).mono ?_;rintro e w6 ⟨rfl,rfl⟩;have d8:=xx jq W5 0 12 (W5.alloc (.cells (ji jq).toArray 9)) (fun j x hx=>by rw[aV];exact uj (TL W5 _) j x hx) (by simp) (by decide) (by decide) (bx (by kernel_rfl)) (by decide);rw[d3]at d8;have b8:Below W5 W5 (W5.alloc (.cells (ji jq).toArray 9)):=(TH _ _).alloc (aa _) _;have a3:=O b8;have f9:=O d8;clear d8 b8
 go_wp2_with(refine f9.mono ?_;rintro e w7 ⟨rfl,g2⟩;have E:=O (I a3 g2);clear g2)
 have h5:nr T0=⟨tq,0,0⟩:=by rw[<- d3];exact Ma
 have b2:T0.length<=100000:=by rw[<- d3];exact bx (by kernel_rfl)
 have f4:=O (HL.go E);have f2:=O (c.go E);have R:=O (f3.go E);have f7:=O h5;have a1:=O b2;have a6:=O (I f6 E);clear h5 b2 HL c f3 E a3 f9 f6 Hw;refine ic 18 [] [] [(0,true),(1,true),(2,true),(3,true),(4,true),(5,true),(6,true),(7,true),(8,true),(9,false),(10,false),(11,true),(12,true),(15,true),(13,false),(14,false),(16,false),(17,true)] (by kernel_rfl) (by kernel_rfl) ⟨by simp,by simp,fun _ h=>by cases h⟩ (fun _ _ _ _ _ h=>h) (fun _ _ o _ _ h=>by cases o<;>exact h) ?_
 iterate 9
  refine gZ (v:=?_) ?_ ?_;rotate_left
  .intro y hy
   skip;go_simp;with_reducible rfl
  try simp only[V]
 refine kH rfl (by rfl) (fun x1 h9 K f=>?_);go_simp;refine(AC x1).mono ?_;rintro e x2 ⟨rfl,hf⟩;refine f _ _ hf.be ?_;clear f K;have c5:Below w7 w7 x1:=gJ (k:=1) h9;have d9:=I c5 hf.be;(try simp only[V]);refine kH rfl (by rfl) (fun x3 H K f=>?_);go_simp;refine(CE T0 tq f7 _ _ _ _ x3 (hf.lens.kept (Bs H) (fun b hb=>ab hb.2 H.size)) (R.go (I d9 H)) a1).mono ?_;rintro e x4 ⟨rfl,i⟩;refine f _ _ i ?_;clear f K;have e0:=I (I d9 H) i;clear hf h9 c5 d9 H i;try simp only[V]
 iterate 2
  refine gZ (v:=?_) ?_ ?_;rotate_left
  .intro y hy
   skip;go_simp;with_reducible rfl
  try simp only[V]
 refine Br rfl rfl (by rfl) (fun y hy=>f2.go (I e0 hy)) (.tmp 3) rfl rfl ?_;(try simp only[V]);refine kH rfl (by rfl) (fun x5 i0 K f=>?_);go_simp;refine f _ _ ((TH _ _).alloc (aa _) _) ?_;clear f K;have d7:(x5.alloc (.cells (ji [[116,104,105,99,107,32,49,48],[99,117,114,118,32,48,46,48,49]]).toArray 9)).heap[x5.heap.size]? =some (.cells (ji [[116,104,105,99,107,32,49,48],[99,117,114,118,32,48,46,48,49]]).toArray 9 (0,0)):=TL x5 _;have i1:Below w7 w7 (x5.alloc (.cells (ji [[116,104,105,99,107,32,49,48],[99,117,114,118,32,48,46,48,49]]).toArray 9)):=gY (I e0 i0);(try simp only[V]);refine kH rfl (by rfl) (fun x7 e1 K f=>?_);go_simp;have h0:=(e1.block _ (TK d7)).trans d7;refine(rW 9 (by omega) [[116,104,105,99,107,32,49,48],[99,117,114,118,32,48,46,48,49]] _ 2 2 x7 (yR h0) (by omega) (bx (by kernel_rfl)) (by intro e;cases e) (by decide)).mono ?_;rintro e x8 ⟨rfl,d6⟩;refine f _ _ d6 ?_;clear f K;have c6:=I (I i1 e1) d6;clear d7 h0 i1 e1 d6 i0 e0;obtain⟨T1,b3⟩:∃T1,wJ 9 [[116,104,105,99,107,32,49,48],[99,117,114,118,32,48,46,48,49]]=T1:=⟨_,rfl⟩
 have h6:nr T1=⟨wK,0,0⟩:=by rw[<- b3];exact Mb
 have b4:T1.length<=100000:=by rw[<- b3];exact bx (by kernel_rfl)
 rw[b3];have f8:=O h6;have a2:=O b4;clear h6 b4 b3;(try simp only[V]);refine kH rfl (by rfl) (fun x9 c8 K f=>?_);go_simp;refine(CE T1 wK f8 ⟨some ⟨d.heap.size+1,0,none⟩,2,2⟩ ⟨some ⟨d.heap.size+2,0,none⟩,1,1⟩ ⟨some ⟨d.heap.size+3,0,none⟩,2,2⟩ ij x9 (f4.go (I c6 c8)) (R.go (I c6 c8)) a2).mono ?_;rintro e j6 ⟨rfl,m⟩;refine f _ _ m ?_;clear f K;have C:=I (I c6 c8) m;clear c6 c8 m;try simp only[V]
 iterate 1
  refine gZ (v:=?_) ?_ ?_;rotate_left
  .intro y hy
   skip;go_simp;with_reducible rfl
  try simp only[V]
 refine jV (l:=[_]) rfl (fun c9 D=>?_);have c4:=R.go (I C D);have b9:=I a6 (I C D);have a7:=O c4;have a4:=O b9;clear c4 b9 C D f4 f2 R a6 f7 a1 f8 a2;go_wp2_with fail;have a:=a7;have c:=a4;clear a7 a4;have b5:Below c9 c9 (c9.alloc (.cells (ji [[119,97,118,101,32,53,53,48,46,48,32,49]]).toArray 9)):=(TH _ _).alloc (aa _) _;refine(rW 7 (by omega) [[119,97,118,101,32,53,53,48,46,48,32,49]] _ 1 1 _ (yR (TL c9 _)) (by omega) (bx (by kernel_rfl)) (by intro e;cases e) (by decide)).mono ?_;rintro e j0 ⟨rfl,c0⟩;have n:=I b5 c0;obtain⟨P1,a8⟩:∃T,wJ 7 [[119,97,118,101,32,53,53,48,46,48,32,49]]=T:=⟨_,rfl⟩
 have g3:pU P1 8 5:=by rw[<- a8];exact SI
 have g6:P1.length<=100000:=by rw[<- a8];exact bx (by kernel_rfl)
 rw[a8];have i2:=O g3;have i5:=O g6;have S:=O (a.go n);have M:=O (I c n);clear g3 g6 a8 n c0 a c b5;have a:=S;have c:=M;go_wp2_with fail;refine(rX P1 8 5 i2 j0 a i5).mono ?_;rintro e d0 ⟨rfl,t⟩;have e7:=O (S.go t);have e2:=O (I M t);clear t;clear a c;have a:=e7;have c:=e2;go_wp2_with fail;have b6:Below d0 d0 (d0.alloc (.cells (ji [[116,104,105,99,107,32,49,48],[116,104,105,99,107,32,49,48]]).toArray 9)):=(TH _ _).alloc (aa _) _;refine(rW 9 (by omega) [[116,104,105,99,107,32,49,48],[116,104,105,99,107,32,49,48]] _ 2 2 _ (yR (TL d0 _)) (by omega) (bx (by kernel_rfl)) (by intro e;cases e) (by decide)).mono ?_;rintro e j1 ⟨rfl,c1⟩;have p:=I b6 c1;obtain⟨P2,a9⟩:∃T,wJ 9 [[116,104,105,99,107,32,49,48],[116,104,105,99,107,32,49,48]]=T:=⟨_,rfl⟩
 have F:pU P2 11 5:=by rw[<- a9];exact SJ
 have g7:P2.length<=100000:=by rw[<- a9];exact bx (by kernel_rfl)
 rw[a9];have g:=O F;have i6:=O g7;have W:=O (a.go p);have N:=O (I c p);clear F g7 a9 p c1 a c b6;have a:=W;have c:=N;go_wp2_with fail;refine(rX P2 11 5 g j1 a i6).mono ?_;rintro e j4 ⟨rfl,u⟩;have e8:=O (W.go u);have e3:=O (I N u);clear u;clear a c;have a:=e8;have c:=e3;go_wp2_with fail;refine(rW 11 (by omega) [] none 0 0 j4 ⟨rfl,aa _,fun h=>absurd h (by omega)⟩ (by omega) (bx (by kernel_rfl)) (fun _=>rfl) (by decide)).mono ?_;rintro e j2 ⟨rfl,c2⟩;have q:=c2;obtain⟨P3,b0⟩:∃T,wJ 11 []=T:=⟨_,rfl⟩
 have g4:pU P3 12 5:=by rw[<- b0];exact SK
 have g8:P3.length<=100000:=by rw[<- b0];exact bx (by kernel_rfl)
 rw[b0];have i3:=O g4;have i7:=O g8;have X:=O (a.go q);have P:=O (I c q);clear g4 g8 b0 q c2 a c;have a:=X;have c:=P;go_wp2_with fail;refine(rX P3 12 5 i3 j2 a i7).mono ?_;rintro e j5 ⟨rfl,z⟩;have e9:=O (X.go z);have e4:=O (I P z);clear z;clear a c;have a:=e9;have c:=e4;go_wp2_with fail;refine(rX [] 1 5 SN j5 a (by decide)).mono ?_;rintro e d2 ⟨rfl,A⟩;have f0:=O (a.go A);have e5:=O (I c A);clear a c A;have a:=f0;have c:=e5;go_wp2_with fail;have b7:Below d2 d2 (d2.alloc (.cells (ji [[115,116,111,112,32,49]]).toArray 9)):=(TH _ _).alloc (aa _) _;refine(rW 3 (by omega) [[115,116,111,112,32,49]] _ 1 1 _ (yR (TL d2 _)) (by omega) (bx (by kernel_rfl)) (by intro e;cases e) (by decide)).mono ?_;rintro e j3 ⟨rfl,c3⟩;have r:=I b7 c3;obtain⟨P5,b1⟩:∃T,wJ 3 [[115,116,111,112,32,49]]=T:=⟨_,rfl⟩
 have g5:pU P5 0 120:=by rw[<- b1];exact SM
 have g9:P5.length<=100000:=by rw[<- b1];exact bx (by kernel_rfl)
 rw[b1];have i4:=O g5;have i8:=O g9;have a0:=O (a.go r);have Q:=O (I c r);clear g5 g9 b1 r c3 a c b7;have a:=a0;have c:=Q;go_wp2_with fail;refine(rX P5 0 120 i4 j3 a i8).mono ?_;rintro e j7 ⟨rfl,B⟩;have f1:=O (a0.go B);have e6:=O (I Q B);clear B;clear a c;have a:=f1;have c:=e6;go_wp2_with fail;go_ret;exact⟨rfl,c⟩
def ph(y f v s k)(n:Nat->Int)(w)(D:Nat->Prop)(hD:∀b,D b->b<w.heap.size)(hy:mj D w y f v s k)(hv:iI y=true)(hn:∀i,og (n i)):
 Calls prog 10 #[jG y f v s k,Nw n] w (Rw D w y f v s k):=by
 have Hy:=O hy;have Hv:=O hv;have Hn:=O hn;clear hy hv hn;obtain⟨e1,e2,e3⟩:=jh w (.cells (iw y f v s k).toArray 37) (.cells #[.int .u8 (n 0),.int .u8 (n 1),.int .u8 (n 2),.int .u8 (n 3),.int .u8 (n 4),.int .u8 (n 5),.int .u8 (n 6),.int .u8 (n 7)] 31) (.cells #[ik,oZ,oZ,oZ,oZ,oN,oN,oN,oN] 37);have c:=oF w (.cells (iw y f v s k).toArray 37) (.cells #[.int .u8 (n 0),.int .u8 (n 1),.int .u8 (n 2),.int .u8 (n 3),.int .u8 (n 4),.int .u8 (n 5),.int .u8 (n 6),.int .u8 (n 7)] 31) (.cells #[ik,oZ,oZ,oZ,oZ,oN,oN,oN,oN] 37);have E1:=O e1;have E2:=O e2;have E3:=O e3;have Hb:=O c;clear e1 e2 e3 c;unfold jG Nw;go_enter func10,ntmps10;go_upto_region 1 with fail;refine gI (fun t=>hU t w 37 y f v s k/\Ik t (w+1) n/\t.heap[w.heap.size+2]? =some (.cells #[ik,oZ,oZ,oZ,oZ,oN,oN,oN,oN] 37 (0,0))/\Below w w t) ⟨E1,E2,E3,Hb⟩ ?_;clear E1 E2 E3 Hb;rintro w1 ⟨h1,h2,h3,c⟩;have w7:=TK h3;have H1:=O h1;have H2:=O h2;have H3:=O h3;have Hb:=O c;clear h1 h2 h3 c
 go_upto_region 2 with(refine it H1 rfl (.tmp 2) rfl rfl ?_)
 refine gI (fun t=>hU t w1 37 y f v s k/\Below w1 w1 t) ⟨TL w1 _,gY (TH _ _)⟩ ?_;rintro w2 ⟨h5,e7⟩;have x4:2<=s.n/\s.n<=16:=Rv Hv Hy.at';have s7:=Hn 0;unfold og at s7
 obtain⟨kk,v9,m1⟩:∃kk:Nat,(n 0).tmod (s.n:Int)=(kk:Int)/\kk<s.n:=by
  have g1:=dq (n 0) (by omega:(s.n:Int)≠0);have g2:=da (n 0) (by omega:0<(s.n:Int));rw[bu s7.1];exact⟨((n 0)% (s.n:Int)).toNat,by omega,by omega⟩
 obtain⟨lq,q,E,cn,cc,b0,off,o7⟩:=Hy.pick m1;have o8:=Hb.size;have z6:=e7.size;have j5:=H1.go e7;have w0:=j5.lt;have o4:=h5.lt;have f0:=Hb.trans (e7.mono Hb.size);obtain⟨_,_,_,_,_,_,_,c7,_⟩:=j5.cells;have k7:=h5.cells.2.2.2.2.2.2.2.1;have f7:=h5.free 7;have b1:=O o7;have t3:=(o7.rr).kept (BT jX _) ((gE f0).mono hD) (fun b h=>h);have p6:=O j5;have H5:=O h5;have d5:=O f0;have n6:=O t3;have p7:=O ((e7.block _ (by omega)).trans H2:Ik w2 (w+1) n);have p9:=O ((e7.block _ w7).trans H3);clear j5 h5 f0 o7 t3 e7 H1 H2 H3 Hb;obtain⟨sa,sn,sc⟩:=s;simp only at x4 m1 v9;have m3:lq.length=sn:=n6.1;clear k7 f7
 go_upto_region 3 with(refine vq (BT jX _) underlying34 Tryz.infoSurf3 rfl (by omega) (by omega) rfl (.tmp 11) (.tmp 13) rfl (e0:=w2.heap.size) rfl (TL w2 _) (S:=D) rfl (n6.kept (BT jX _) ((gE ((TH w2 w2).alloc (aa _) _)).mono (fun b h=>by have:=hD b h;omega)) (fun b h=>h)) (by omega) (by omega) (fun b h=>by have:=hD b h;omega) ?_;intro z7 w3 g0 d1 f9 r5;have t2:=r5 b0 off;obtain⟨A,N,t4,l7,p5⟩:=g0.form (by rw[m3];omega);rw[m3]at t4;subst t4;have v8:=(f9 A rfl).1;have j6:hU w3 w1 37 y f v ⟨sa,sn,sc⟩ k:=((d1.block w1 (by simp;omega) (by intro e2;have e3:w1.heap.size=w2.heap.size:=(aE e2);omega)).trans (TJ w2 _ _ o4)).trans H5;have k7:=j6.cells.2.2.2.2.2.2.2.1;have f7:=j6.free 7;have h8:=t2 A (by rw[show sa=_ from b1.sa]) rfl kk (gX q.y.s E cn cc) m1 rfl (jb b1.row (((gE d5).mono hD).trans ((gE ((TH w2 w2).alloc (aa _) _)).mono (fun b h=>by have:=hD b h;omega))) b1.db);have g4:=O h8;have l7:=(f9 A rfl).2;have j0:=O g0;have e6:=O d1;have q0:=O j6;clear g0 d1 f9 j6 r5 t2 h8)
 have r3:Below w2 w2 (w2.alloc (.cells #[] 70)):=(TH w2 w2).alloc (aa _) _;have h6:Below w2 w2 w3:=r3.grown e6 (by simp) (fun k hk=>by have:w2.heap.size=k:=aE hk;omega);have l0:=d5.trans (h6.mono d5.size)
 have d2:∀g,(Value.slice E cn cc).ownBlock=some g->D g:=fun g hg=>(b1.film.2 g hg).1.1
 have m:zX D w y f v ⟨sa,sn,sc⟩ k n w1 A N kk E cn cc (w3.setCell ⟨w1.heap.size,7,none⟩ (.slice (J A) sn N)):=by
  have m0:gN (fun b=>b≠w1.heap.size) w3 (w3.setCell ⟨w1.heap.size,7,none⟩ (.slice (J A) sn N)):=gK w1 [_] 7 w3;have R:Below w w (w3.setCell ⟨w1.heap.size,7,none⟩ (.slice (J A) sn N)):=l0.setCell (p:=⟨w1.heap.size,7,none⟩) (by show w.heap.size<=w1.heap.size;omega) _;refine⟨⟨(m0 _ (by omega)).trans ((h6.block _ (by omega)).trans p6),(m0 _ (by omega)).trans ((h6.block _ (by omega)).trans p7),(m0 _ (by omega)).trans ((h6.block _ (by omega)).trans p9),gG q0 7 _,?_,by omega,by omega,by simp;omega,hD,d2,(gE R).mono (fun b c=>hD b c.1),fun g hg j _=>R.cell (p:=⟨g,j,none⟩) (hD g (d2 g hg)),⟨R.os,R.tape,R.output,R.size,(gE R).mono (fun b c=>c.1)⟩⟩,gE R⟩
  exact(b1.rowY j0).keep iD (m0.mono (fun b c=>by
   obtain c|c:=c
   .have:=hD b c.1;omega
   .have e:A=b:=by simpa[Value.ownBlock]using c
    omega)) (fun b c=>c)
 refine gI (fun t=>zX D w y f v ⟨sa,sn,sc⟩ k n w1 A N kk E cn cc t/\t.rangeAt A (kk*22) (gX q.y.s E cn cc)) ⟨m,jb g4 (S:=fun b=>b≠w1.heap.size) (gK w1 [_] 7 w3) (by omega)⟩ ?_;clear r3 h6 l0 m c7 k7 f7 p6 H5 d5 n6 p7 p9 q0 j0 e6 g4 w0 o4 v8 p5 l7;rintro w4 ⟨m,h8⟩;generalize w1.heap.size=g5 at*;have d:=O m;have g4:=O h8;have s5:=m.s.hlt;have y4:=m.s.h5;have h14:=m.s.h14;obtain⟨a0,-⟩:=m.s.arr.cells;have c7:=m.s.l5.cells.2.2.2.2.2.2.2.1;have u0:IntKind.i64.wrap (n 0)=n 0:=TM _ (by omega)
 have x3:¬(sn:Int)=0:=by omega
 clear m h8;go_upto_region 4 with fail;have m4:=Y.new w4 q.y.s E cn cc;have s0:=d.below d.s.hlt (gY (o:=.cells (⟨q.y.s,E,cn,cc⟩:jt) 70) (TH w4 w4));have i9:=O m4;have q8:=O s0;clear m4 s0 a0 u0 x3
 go_upto_region 5 with(first
  |(refine lw g4 rfl (.tmp 26) rfl rfl ?_)
  |(refine lC q.y.s E cn cc _ rfl rfl (.tmp 7) (.tmp 27) rfl rfl rfl ?_))
 refine gI (fun t=>zX D w y f v ⟨sa,sn,sc⟩ k n g5 A N kk E cn cc t/\Y t w4 q.y.s E cn cc) ⟨q8,i9⟩ ?_;clear d g4 q8 i9 c7;rintro w5 ⟨m,F⟩;have a8:A<w4.heap.size:=s5;clear s5;generalize w4.heap.size=g7 at*;obtain⟨_,a1,a2,-⟩:=m.s.arr.cells;have s8:=Hn 1;have s9:=Hn 2;unfold og at s8 s9;have u1:IntKind.i64.wrap (n 1)=n 1:=TM _ (by omega);have u2:IntKind.i64.wrap (n 2)=n 2:=TM _ (by omega);have u3:IntKind.i64.wrap (1000*n 1)=1000*n 1:=TM _ (by omega);have u4:IntKind.i64.wrap (10*n 2)=10*n 2:=TM _ (by omega);obtain⟨k0,k1,k2,k3,k4,k5,k6,k7,k8,k9,b8,b9,c0,c1,c2,c3,c4,c5,c6,c8,c9,X⟩:=F.cells;have v4:=Y.free F 14;have m2:=F.lt;have o5:=m.s.hlt;have g3:Y (w5.setCell ⟨g7,14,none⟩ (.int .i64 (1000*n 1))) g7 {q.y.s with r9:=1000*n 1} E cn cc:=gG F 14 _;have m7:Y ((w5.setCell ⟨g7,14,none⟩ (.int .i64 (1000*n 1))).setCell ⟨g7,15,none⟩ (.int .i64 (10*n 2))) g7 {q.y.s with r9:=1000*n 1,p8:=10*n 2} E cn cc:=gG g3 15 _;have l6:=(m.set a8 14 (.int .i64 (1000*n 1))).set a8 15 (.int .i64 (10*n 2));have j1:=O m7;have i5:=O l6;have n9:=m.s.h5;have o0:=m.s.h14;have v5:(w5.setCell ⟨g7,14,none⟩ (.int .i64 (1000*n 1))).frozen? ⟨g7,15,none⟩=false:=Y.free g3 15;clear F m g3 m7 l6 k0 k1 k2 k3 k4 k5 k6 k7 k8 k9 b8 b9 c0 c1 c4 c5 c6 c8 c9 X;go_upto_region 7 with fail;refine gI (fun t=>zX D w y f v ⟨sa,sn,sc⟩ k n g5 A N kk E cn cc t/\ ∃s1:gW,s1.i7=q.y.s.i7/\Y t g7 s1 E cn cc) ⟨i5,{q.y.s with r9:=1000*n 1,p8:=10*n 2},rfl,j1⟩ ?_;clear i5 j1 a1 a2 u1 u2 u3 u4 s8 s9 c2 c3 v4 v5 m2 o5 n9 o0;rintro w6 ⟨m,s1,o8,F⟩;have d:=O m;have B:=O F;have g6:=O o8;obtain⟨_,_,_,a3,a4,-⟩:=m.s.arr.cells;have m2:=F.lt;have o5:=m.s.hlt;have n9:=m.s.h5;have o0:=m.s.h14;have z1:=F.cells.1;have t0:=Hn 3;have x0:=Hn 4;unfold og at t0 x0;clear m F o8
 go_upto_if 40 with fail
 go_cut [] (fun t=>zX D w y f v ⟨sa,sn,sc⟩ k n g5 A N kk E cn cc t/\ ∃s2:gW,s2.i7=q.y.s.i7/\Y t g7 s2 E cn cc)
 case first=>
  cases hkd:(s1.kind==1)
  .go_wp2
   go_meet;exact⟨d,s1,g6,B⟩
  .have u3:IntKind.i64.wrap (n 3)=n 3:=TM _ (by omega)
   have u4:IntKind.i64.wrap (n 4)=n 4:=TM _ (by omega);have u5:IntKind.i64.wrap (n 3-100)=n 3-100:=TM _ (by omega);have u6:IntKind.i64.wrap (n 4-128)=n 4-128:=TM _ (by omega);have u7:IntKind.i64.wrap (1000*(n 4-128))=1000*(n 4-128):=TM _ (by omega)
   obtain⟨j,hj,y9⟩:∃j:Nat,(n 3).tmod 4=(j:Int)/\j<4:=by
    rw[bu t0.1];exact⟨((n 3)%4).toNat,by omega,by omega⟩
   rcases(by omega:j=0\/j=1\/j=2\/j=3)with rfl|rfl|rfl|rfl
   .have hA:Y (w6.setCell ⟨g7,5,none⟩ (.int .i64 (n 3-100))) g7 {s1 with a0:=n 3-100} E cn cc:=gG B 5 _
    have hB:Y ((w6.setCell ⟨g7,5,none⟩ (.int .i64 (n 3-100))).setCell ⟨g7,2,none⟩ (.int .i64 (1000*(n 4-128)))) g7 {s1 with a0:=n 3-100,conic:=1000*(n 4-128)} E cn cc:=gG hA 2 _;obtain⟨k0,k1,k2,k3,k4,k5,k6,k7,k8,k9,b8,b9,c0,c1,c2,c3,c4,c5,c6,c8,c9,X⟩:=B.cells;have q2:=hA.cells.2.2.1;have f5:=Y.free B 5;have f2:=Y.free hA 2;have HB:=O hB;clear hA hB k0 k1 k2 k3 k4 k6 k7 k8 k9 b8 b9 c0 c1 c2 c3 c4 c5 c6 c8 c9 X;go_wp2;go_meet;exact⟨(d.set a8 5 _).set a8 2 _,{s1 with a0:=n 3-100,conic:=1000*(n 4-128)},g6,HB⟩
   .have hA:Y (w6.setCell ⟨g7,6,none⟩ (.int .i64 (n 3-100))) g7 {s1 with a1:=n 3-100} E cn cc:=gG B 6 _
    have hB:Y ((w6.setCell ⟨g7,6,none⟩ (.int .i64 (n 3-100))).setCell ⟨g7,2,none⟩ (.int .i64 (1000*(n 4-128)))) g7 {s1 with a1:=n 3-100,conic:=1000*(n 4-128)} E cn cc:=gG hA 2 _;obtain⟨k0,k1,k2,k3,k4,k5,k6,k7,k8,k9,b8,b9,c0,c1,c2,c3,c4,c5,c6,c8,c9,X⟩:=B.cells;have q2:=hA.cells.2.2.1;have f6:=Y.free B 6;have f2:=Y.free hA 2;have HB:=O hB;clear hA hB k0 k1 k2 k3 k4 k5 k7 k8 k9 b8 b9 c0 c1 c2 c3 c4 c5 c6 c8 c9 X;go_wp2;go_meet;exact⟨(d.set a8 6 _).set a8 2 _,{s1 with a1:=n 3-100,conic:=1000*(n 4-128)},g6,HB⟩
   .have hA:Y (w6.setCell ⟨g7,7,none⟩ (.int .i64 (n 3-100))) g7 {s1 with a2:=n 3-100} E cn cc:=gG B 7 _
    have hB:Y ((w6.setCell ⟨g7,7,none⟩ (.int .i64 (n 3-100))).setCell ⟨g7,2,none⟩ (.int .i64 (1000*(n 4-128)))) g7 {s1 with a2:=n 3-100,conic:=1000*(n 4-128)} E cn cc:=gG hA 2 _;obtain⟨k0,k1,k2,k3,k4,k5,k6,k7,k8,k9,b8,b9,c0,c1,c2,c3,c4,c5,c6,c8,c9,X⟩:=B.cells;have q2:=hA.cells.2.2.1;have f7:=Y.free B 7;have f2:=Y.free hA 2;have HB:=O hB;clear hA hB k0 k1 k2 k3 k4 k5 k6 k8 k9 b8 b9 c0 c1 c2 c3 c4 c5 c6 c8 c9 X;go_wp2;go_meet;exact⟨(d.set a8 7 _).set a8 2 _,{s1 with a2:=n 3-100,conic:=1000*(n 4-128)},g6,HB⟩
   .have hA:Y (w6.setCell ⟨g7,8,none⟩ (.int .i64 (n 3-100))) g7 {s1 with a3:=n 3-100} E cn cc:=gG B 8 _
    have hB:Y ((w6.setCell ⟨g7,8,none⟩ (.int .i64 (n 3-100))).setCell ⟨g7,2,none⟩ (.int .i64 (1000*(n 4-128)))) g7 {s1 with a3:=n 3-100,conic:=1000*(n 4-128)} E cn cc:=gG hA 2 _;obtain⟨k0,k1,k2,k3,k4,k5,k6,k7,k8,k9,b8,b9,c0,c1,c2,c3,c4,c5,c6,c8,c9,X⟩:=B.cells;have q2:=hA.cells.2.2.1;have f8:=Y.free B 8;have f2:=Y.free hA 2;have HB:=O hB;clear hA hB k0 k1 k2 k3 k4 k5 k6 k7 k9 b8 b9 c0 c1 c2 c3 c4 c5 c6 c8 c9 X;go_wp2;go_meet;exact⟨(d.set a8 8 _).set a8 2 _,{s1 with a3:=n 3-100,conic:=1000*(n 4-128)},g6,HB⟩
 case rest=>
  obtain⟨o2,s2,m5,F⟩:=hcut
  have h7:jN (fun b=>(Value.slice E cn cc).ownBlock=some b\/(g7<b/\b<wc.heap.size)) wc E cn cc q.y.zs:=by
   have h0:jN (fun b=>b<w.heap.size/\(Value.slice E cn cc).ownBlock=some b) w E cn cc q.y.zs:=⟨b1.film.1,fun g hg=>⟨hD g (d2 g hg),hg⟩⟩;exact h0.kept (o2.k.mono (fun b c=>c.1)) (fun b c=>VR c.2)
  have d:=O o2.s;have B:=O F;have v3:=O m5;have e4:=O h7;clear o2 m5 F h7;go_wp2_with fail
  go_loopw [8] (fun iv wr=>∃(i:Nat)(fa:Option Addr)(fn fc:Nat)(zs:List Int),i<=3/\iv=.int .i64 (i:Int)/\wB D w y f v ⟨sa,sn,sc⟩ k n g5 A N kk E cn cc wr/\Y wr g7 s2 fa fn fc/\jN (fun b=>(Value.slice E cn cc).ownBlock=some b\/(g7<b/\b<wr.heap.size)) wr fa fn fc zs/\cn<=fn/\fn<=cn+i) (fun iv _=>3-(intOf iv).toNat)
  case atStart=>exact⟨0,E,cn,cc,_,by omega,rfl,d,B,e4,by omega,by omega⟩
  case round=>
   clear d B e4;obtain⟨i,fa,fn,fc,zs,hi,rfl,m,F,h7,y6,y7⟩:=hrel;obtain⟨_,_,_,_,_,a5,a6,-⟩:=m.arr.cells;have c7:=m.l5.cells.2.2.2.2.2.2.2.1;have k0:=F.cells.1;have X:=F.cells.2.2.2.2.2.2.2.2.2.2.2.2.2.2.2.2.2.2.2.2.2;have n8:=Y.free F 21;have m2:=F.lt;have o5:=m.hlt;have n9:=m.h5;have o0:=m.h14;have o6:=Hn 5;have t1:=Hn 6;unfold og at o6 t1;have d:=O m;have B:=O F;have e4:=O h7;clear m F h7
   obtain⟨M5,v7,v6⟩:∃M5:Nat,(n 5).tmod 4=(M5:Int)/\M5<=3:=by
    rw[bu o6.1];exact⟨((n 5)%4).toNat,by omega,by omega⟩
   have u5:IntKind.i64.wrap (M5:Int)=(M5:Int):=TM _ (by omega);have u6:IntKind.u8.wrap (M5:Int)=(M5:Int):=IntWalk.u8_in _ (by omega);go_upto_region 11 with fail
   go_cut [80] (fun bv t=>∃b,bv=.bool b/\(b=true->i<3)/\wr=t)
   case first=>
    by_cases q1:i<M5
    .have x5:(i:Int) <(M5:Int):=by omega
     go_wp2
     all_goals
      go_meet;exact⟨_,rfl,fun _=>by omega,rfl⟩
    .have x5:¬(i:Int) <(M5:Int):=by omega
     go_wp2
     all_goals
      go_meet;exact⟨_,rfl,fun h=>by(first|cases h|(simp at h;omega)|omega),rfl⟩
   case rest=>
    obtain⟨bb,rfl,e8,rfl⟩:=hcut;cases bb
    .clear a5 a6 u5 u6 e8 X n8 o6 t1 v7 v6
     have d3:=d.row.there (i:=kk) (by rw[Hy.at'.l.1];exact m1);have o1:=b1.cn8 Hv
     have d7:s2.i7.size<=9223372036854775807:=by rw[v3];exact b1.gl
     have r:=d.fin b1 Hy.at' e4 a8 (by omega) d7;have m9:Y (wr.setCells A (kk*22) (gX s2 fa fn fc)) g7 s2 fa fn fc:=(gK A _ _ wr g7 (by omega)).trans B
     have l8:IR (wr.setCells A (kk*22) (gX s2 fa fn fc)).heap.size (wr.setCells A (kk*22) (gX s2 fa fn fc)) 3 fa fn fc zs:=(e4.irp.kept (T:=fun b=>b<(wr.setCells A (kk*22) (gX s2 fa fn fc)).heap.size) ((gK A _ _ wr).mono (fun b c=>by
      obtain c|c:=c
      .have:=d.dl b (d.own b c);omega
      .omega)) (fun b c=>by
      rw[im]
      obtain c|c:=c
      .have:=d.dl b (d.own b c);omega
      .exact c.2)).ir (fun b h=>h)
     have C:=O r;have j2:=O m9;have i8:=O l8;clear r m9 l8 e4
     go_upto_region 15 with(first
      |(refine gO B rfl (.tmp 7) rfl rfl ?_)
      |(refine pX s2 fa fn fc d3 rfl (.tmp 103) (.tmp 102) rfl rfl rfl ?_;refine jJ (fun t=>yD D w y f v ⟨sa,sn,sc⟩ k n g5 {y with l:=y.l.set kk ⟨s2,zs⟩} ⟨some ⟨A,0,none⟩,sn,N⟩ k t/\Y t g7 s2 fa fn fc/\IR t t 3 fa fn fc zs) ⟨C,j2,i8⟩ ?_;clear C j2 i8 d B;rintro w8 ⟨r,F,s4⟩;have C:=O r;have B:=O F;have i6:=O s4;clear r F s4))
     have f3:fn<=1000000:=by omega
     have j9:iP (fun b=>b<w8.heap.size) w8 {y with l:=y.l.set kk ⟨s2,zs⟩} f v ⟨some ⟨A,0,none⟩,sn,N⟩ k:=C.at5.kept (gN.refl _ _) (fun b c=>by
      obtain c|c:=c
      .have:=C.dl b c;have:=C.h5;have:=C.l5.lt;omega
      .exact c.2)
     have a9:=O j9;clear j9;have n0:∃y2:gR,y2={y with l:=y.l.set kk ⟨s2,zs⟩}:=⟨_,rfl⟩;obtain⟨y2,n0⟩:=n0;rw[<- n0]at C a9;clear n0 d3 c7 k0;try simp only[Act.put]
     go_cut [111] (fun bv t=>∃b,bv=.bool b/\(b=false->iI y2=true)/\yD D w y f v ⟨sa,sn,sc⟩ k n g5 y2 ⟨some ⟨A,0,none⟩,sn,N⟩ k t)
     case first=>
      have z5:=C.l5.lt;cases ho:oA s2 zs fn
      .go_wp2_with(first
        |(refine gO B rfl (.tmp 7) rfl rfl ?_)
        |((with_reducible refine(rC s2 zs fa fn fc _ i6.out f3 d7 false ho).mono ?_);rintro e w9 ⟨K,b5⟩;replace K:e=.returned (.int .i64 110):=K;subst K;have d9:=O b5;clear b5))
       go_meet;exact⟨true,rfl,fun h=>(by cases h),C.below d9⟩
      .cases hv2:iI y2
       .have j3:=O hv2;clear hv2
        go_wp2_with(first
         |(refine gO B rfl (.tmp 7) rfl rfl ?_)
         |((with_reducible refine(rC s2 zs fa fn fc _ i6.out f3 d7 true ho).mono ?_);rintro e w9 ⟨K,b5⟩;replace K:e=.returned (.int .i64 0):=K;subst K;have d9:=O b5;have n5:=O (C.l5.go b5);clear b5)
         |(refine jZ n5 (by rfl) (.tmp 5) rfl rfl ?_)
         |(go_at_call 39;(refine(sB y2 f v ⟨some ⟨A,0,none⟩,sn,N⟩ k _ (a9.go d9)).mono ?_);rintro e x7 ⟨K,b7⟩;rw[j3]at K;replace K:e=.returned (.int .i64 120):=K;subst K;have e9:=O b7;clear b7))
        go_meet;exact⟨true,rfl,fun h=>(by cases h),(C.below d9).below e9⟩
       .have j3:=O hv2;clear hv2
        go_wp2_with(first
         |(refine gO B rfl (.tmp 7) rfl rfl ?_)
         |((with_reducible refine(rC s2 zs fa fn fc _ i6.out f3 d7 true ho).mono ?_);rintro e w9 ⟨K,b5⟩;replace K:e=.returned (.int .i64 0):=K;subst K;have d9:=O b5;have n5:=O (C.l5.go b5);clear b5)
         |(refine jZ n5 (by rfl) (.tmp 5) rfl rfl ?_)
         |(go_at_call 39;(refine(sB y2 f v ⟨some ⟨A,0,none⟩,sn,N⟩ k _ (a9.go d9)).mono ?_);rintro e x7 ⟨K,b7⟩;rw[j3]at K;replace K:e=.returned (.int .i64 0):=K;subst K;have e9:=O b7;clear b7))
        go_meet;exact⟨false,rfl,fun h=>j3,(C.below d9).below e9⟩
     case rest=>
      obtain⟨bb,rfl,r4,r⟩:=hcut;have q5:=O r4;have M:=O r;clear r4 r C B i6 a9
      go_upto_if 111 with fail
      go_cut [] (fun t=>∃z Q d4,iI z=true/\yD D w y f v ⟨sa,sn,sc⟩ k n g5 z Q d4 t)
      case first=>
       cases bb
       .go_wp2
        go_meet;exact⟨y2,_,k,(by have:=q5.out;simpa using this),M⟩
       .have s6:=M.at1.kept (T:=fun b=>D b\/(g5<b/\b<wc.heap.size)) (gN.refl _ _) (fun b c=>VR c)
        have v2:=O s6;clear s6
        go_wp2_with(first
         |(refine it M.l1 rfl (.tmp 2) rfl rfl ?_)
         |(refine ja y f v ⟨sa,sn,sc⟩ k M.l5 rfl rfl (.tmp 5) (.tmp 112) rfl rfl rfl ?_;intro n2 g9 g8;have n4:=O g9;have b6:=O g8;clear g9 g8))
        go_meet;exact⟨y,_,k,Hv,M.store v2 n4 b6⟩
      case rest=>
       obtain⟨z,Q,d4,i0,r⟩:=hcut;have n7:=O i0;have d0:=O r;clear i0 r M q5;have a7:=d0.arr.cells.2.2.2.2.2.2.2;have x1:=Hn 7;unfold og at x1;go_upto_region 17 with fail
       go_cut [116] (fun bv t=>∃b,bv=.bool b/\yD D w y f v ⟨sa,sn,sc⟩ k n g5 z Q d4 t)
       case first=>
        go_wp2
        all_goals
         go_meet;exact⟨_,rfl,d0⟩
       case rest=>
        obtain⟨b2,rfl,r⟩:=hcut;have L:=O r;clear r d0 a7
        go_upto_if 116 with fail
        go_cut [] (fun t=>∃z Q d4,iI z=true/\yD D w y f v ⟨sa,sn,sc⟩ k n g5 z Q d4 t)
        case first=>
         cases b2
         .go_wp2
          go_meet;exact⟨z,Q,d4,n7,L⟩
         .obtain⟨P,rfl⟩:∃x:World,x=wc:=⟨_,rfl⟩
          have x9:=L.l5.lt;have x8:=L.h5
          go_upto_region 19 with(refine it L.l5 rfl (.tmp 5) rfl rfl ?_)
          refine gI (fun t=>hU t P 37 z f v Q d4/\Below P P t) ⟨TL P _,gY (TH _ _)⟩ ?_;rintro H ⟨h9,d6⟩;have k8:=h9.cells.2.2.2.2.2.2.2.2;have f8:=h9.free 8;have z4:=h9.lt;have a7:=((L.below d6).arr).cells.2.2.2.2.2.2.2;have u7:IntKind.i64.wrap (n 7)=n 7:=TM _ (by omega);have u8:IntKind.i64.wrap (1000*n 7)=1000*n 7:=TM _ (by omega);have u9:IntKind.i64.wrap (1000*n 7-5)=1000*n 7-5:=TM _ (by omega);have y3:=d6.size;have H9:=O h9;have i2:=O d6;clear h9 d6
          have n1:(H.setCell ⟨P.heap.size,8,none⟩ (.slice (J (H+1)) 2 2)).heap.size=H.heap.size:=by simp
          obtain⟨e1,e2⟩:=iN (H.setCell ⟨P.heap.size,8,none⟩ (.slice (J (H+1)) 2 2)) (.cells #[oZ,.int .i64 9,.int .i64 (1000*n 7-5)] 72) (.cells #[vd,Z (J (H.heap.size)) 1 1,ve,oN] 75);rw[n1]at e1 e2;have e8:Below P P (((H.setCell ⟨P.heap.size,8,none⟩ (.slice (J (H+1)) 2 2)).alloc (.cells #[oZ,.int .i64 9,.int .i64 (1000*n 7-5)] 72)).alloc (.cells #[vd,Z (J (H.heap.size)) 1 1,ve,oN] 75)):=gY (gY (i2.setCell (p:=⟨P.heap.size,8,none⟩) (aa _) _));have h4:hU (((H.setCell ⟨P.heap.size,8,none⟩ (.slice (J (H+1)) 2 2)).alloc (.cells #[oZ,.int .i64 9,.int .i64 (1000*n 7-5)] 72)).alloc (.cells #[vd,Z (J (H.heap.size)) 1 1,ve,oN] 75)) P 37 {z with cf:=[⟨vd,[0,9,1000*n 7-5]⟩,⟨ve,[]⟩]} f v Q ⟨some ⟨H.heap.size+1,0,none⟩,2,2⟩:=(TJ _ _ _ (by simp;omega)).trans ((TJ _ _ _ (by simp;omega)).trans (gG H9 8 _));have E1:=O e1;have E2:=O e2;have q4:=O e8;have d8:=O h4;clear n1 e1 e2 e8 h4;go_upto_region 20 with fail;obtain⟨z3,o9⟩:∃z3:gR,z3={z with cf:=[⟨vd,[0,9,1000*n 7-5]⟩,⟨ve,[]⟩]}:=⟨_,rfl⟩;rw[<- o9]at d8;refine gI (fun t=>hU t P 37 z3 f v Q ⟨some ⟨H.heap.size+1,0,none⟩,2,2⟩/\t.heap[H.heap.size]? =some (.cells #[oZ,.int .i64 9,.int .i64 (1000*n 7-5)] 72 (0,0))/\t.heap[H.heap.size+1]? =some (.cells #[vd,Z (J (H.heap.size)) 1 1,ve,oN] 75 (0,0))/\Below P P t) ⟨d8,E1,E2,q4⟩ ?_;clear E1 E2 q4 d8 H9 i2 k8 f8 a7 u7 u8 u9;rintro n3 ⟨h4,e1,e2,l2⟩;have y0:=TK e2;have f1:=L.below l2
          have hat:iP (fun b=>D b\/(g5<b/\b<n3.heap.size)) n3 z3 f v Q ⟨some ⟨H.heap.size+1,0,none⟩,2,2⟩:=by
           have h:=f1.at5;rw[o9];exact⟨h.fs,h.ws,h.l,Nx e2 e1 (VS ⟨by omega,by omega⟩) (VS ⟨by omega,by omega⟩),h.fn,h.wn,h.sn,by show 2<=1000000;omega,h.fc,h.wc,h.nm⟩
          have j8:iP (fun b=>b<n3.heap.size) n3 z3 f v Q ⟨some ⟨H.heap.size+1,0,none⟩,2,2⟩:=hat.kept (gN.refl _ _) (fun b c=>by
           obtain c|c:=c
           .have:=hD b c;omega
           .exact c.2)
          have d8:=O h4;have i3:=O f1;have v0:=O hat;have i1:=O j8;clear h4 e1 e2 l2 f1 hat j8 o9;cases hv3:iI z3
          .have j4:=O hv3;clear hv3
           go_wp2_with(first
            |(refine it d8 rfl (.tmp 9) rfl rfl ?_)
            |(go_at_call 39;(refine(sB z3 f v Q ⟨some ⟨H.heap.size+1,0,none⟩,2,2⟩ _ i1).mono ?_);rintro e t5 ⟨K,W⟩;rw[j4]at K;replace K:e=.returned (.int .i64 120):=K;subst K;have p0:=O W;clear W))
           go_meet;exact⟨z,Q,d4,n7,i3.below p0⟩
          .have j4:=O hv3;clear hv3
           go_wp2_with(first
            |(refine it d8 rfl (.tmp 9) rfl rfl ?_)
            |(refine it t9 rfl (.tmp 9) rfl rfl ?_)
            |(go_at_call 39;(refine(sB z3 f v Q ⟨some ⟨H.heap.size+1,0,none⟩,2,2⟩ _ i1).mono ?_);rintro e t5 ⟨K,W⟩;rw[j4]at K;replace K:e=.returned (.int .i64 0):=K;subst K;have t9:=O (d8.go W);have i4:=O (i3.below W);have a9:=O (v0.kept (T:=fun b=>D b\/(g5<b/\b<t5.heap.size)) ((gE W).mono (fun b c=>by obtain c|c:=c;have:=hD b c;omega;exact c.2)) (fun b c=>by have:=W.size;obtain c|c:=c;exact VR c;exact VS ⟨c.1,by omega⟩));clear W)
            |(refine ja z3 f v Q ⟨some ⟨H.heap.size+1,0,none⟩,2,2⟩ i4.l5 rfl rfl (.tmp 5) (.tmp 132) rfl rfl rfl ?_;intro z8 r1 r0;have t8:=O r1;have p1:=O r0;clear r1 r0))
           go_meet;exact⟨z3,_,_,j4,i4.store a9 t8 p1⟩
        case rest=>
         obtain⟨z2,t7,t6,i0,r⟩:=hcut;have p4:=O i0;have u:=O r;clear i0 r L n7
         go_wp2_with(first
          |(refine it u.l5 rfl (.tmp 5) rfl rfl ?_)
          |(refine ja z2 f v t7 t6 u.z0 rfl rfl (.tmp 4) (.tmp 133) rfl rfl rfl ?_;intro n2 g9 g8;have n4:=O g9;have b6:=O g8;clear g9 g8))
         refine ar (Fe rfl rfl n4) rfl ?_;have h5:=u.h5;have o4:=u.l5.lt
         have f4:gN (fun b=>b≠w.heap.size+2) wc n2:=by rw[b6];exact gK _ _ _ _
         have y1:n2.heap.size=wc.heap.size:=by rw[b6,im]
         have l3:Below (w+2) wc n2:=by rw[b6];exact ig (aa _) _ _ (TH _ _)
         refine⟨z2,f,v,t7,t6,rfl,?_,p4,?_,⟨l3.os.trans u.quiet.os,l3.tape.trans u.quiet.tape,l3.output.trans u.quiet.output,af u.quiet.size l3.size,u.quiet.kept.trans (f4.mono (fun b h=>by omega))⟩⟩
         .exact u.at5.kept (f4.mono (fun b c=>by
           obtain c|c:=c
           .have:=hD b c;omega
           .omega)) (fun b c=>by
           obtain c|c:=c
           .exact VR c
           .exact VS ⟨by omega,by omega⟩)
         .exact u.at1.kept (f4.mono (fun b c=>by have:=hD b c;omega)) (fun b c=>c)
    .have y8:i<3:=e8 rfl
     clear e8 a5 u5 u6 c7 k0;have u7:IntKind.i64.wrap (n 6)=n 6:=TM _ (by omega);have u8:IntKind.i64.wrap (40000*n 6)=40000*n 6:=TM _ (by omega);have u9:IntKind.i64.wrap (10000000+40000*n 6)=10000000+40000*n 6:=TM _ (by omega);have x6:IntKind.i64.wrap (1+n 6)=1+n 6:=TM _ (by omega);have y5:=b1.cn
     go_wp2_with(refine vt rfl (.tmp 84) (.tmp 96) rfl (S:=fun b=>(Value.slice E cn cc).ownBlock=some b\/(g7<b/\b<wr.heap.size)) (10000000+40000*n 6) (i:Int) (1+n 6) (gl:=wr.heap.size) rfl (e4.kept ((gE (gY (TH wr wr))).mono (fun b c=>by obtain c|c:=c;have:=d.dl b (d.own b c);have:=d.h5;omega;exact c.2)) (fun b c=>c)) rfl (TL wr _) (by omega) (fun b c=>by obtain c|c:=c;have:=d.dl b (d.own b c);have:=d.h5;simp;omega;have:=c.2;simp;omega) ?_;intro b3 b4 w8 r6 o3 o1 s3;have j7:=(o3 g7 ⟨by simp;omega,by(intro hh;obtain hh|hh:=hh;have:=d.dl g7 (d.own g7 hh);have:=d.h5;omega;have:=hh.1;omega)⟩).trans ((TJ wr _ _ m2).trans B);have X:=(gA j7 21).trans rfl;have n8:w8.frozen? ⟨g7,21,none⟩=false:=(by rw[World.frozen?,j7];rfl);have q7:=O r6;have q9:=O o3;have q6:=O o1;have e5:=O s3;have q3:=O j7;clear r6 o3 o1 s3 j7)
     have r2:∀b,((Value.slice E cn cc).ownBlock=some b\/(g7<b/\b<wr.heap.size))->b≠g7:=fun b c e=>by
      obtain c|c:=c
      .have:=d.dl b (d.own b c);omega
      .omega
     have r7:wB D w y f v ⟨sa,sn,sc⟩ k n g5 A N kk E cn cc w8:=by
      refine(d.below d.hlt (gY (TH wr wr))).go (q9.mono (fun b c=>⟨by simp;omega,fun hh=>?_⟩)) (fun g hg j hj=>?_) e5.os e5.tape e5.output e5.size
      .obtain hh|hh:=hh
       .exact c.2 hh
       .omega
      .by_cases hc:(Value.slice fa fn fc).ownBlock=some g
       .exact q6 g hc j (by omega)
       .have hgl:=d.dl g (d.own g hg)
        exact World.cell?_of_block (a:=⟨g,j,none⟩) (e5.block g (by simp;omega) (fun e=>hc e.symm))
     have l9:gN (fun b=>b≠g7) w8 (w8.setCell ⟨g7,21,none⟩ (.slice b3 (fn+1) b4)):=gK g7 [_] 21 w8
     have m6:(w8.setCell ⟨g7,21,none⟩ (.slice b3 (fn+1) b4)).heap.size=w8.heap.size:=by simp
     have x2:wr.heap.size+1<=w8.heap.size:=by have:=e5.size;simpa using this
     have r8:=r7.set a8 21 (.slice b3 (fn+1) b4);have m8:Y (w8.setCell ⟨g7,21,none⟩ (.slice b3 (fn+1) b4)) g7 s2 b3 (fn+1) b4:=Y.coat q3 b3 (fn+1) b4
     have l4:jN (fun b=>(Value.slice E cn cc).ownBlock=some b\/(g7<b/\b<(w8.setCell ⟨g7,21,none⟩ (.slice b3 (fn+1) b4)).heap.size)) (w8.setCell ⟨g7,21,none⟩ (.slice b3 (fn+1) b4)) b3 (fn+1) b4 (zs++[10000000+40000*n 6,(i:Int),1+n 6]):=by
      refine q7.kept (l9.mono (fun b c=>?_)) (fun b c=>?_)
      .obtain c|c:=c
       .exact r2 b c
       .have:=c.1;simp at this;omega
      .rw[m6]
       obtain c|c:=c
       .obtain c|c:=c
        .exact VR c
        .exact VS ⟨c.1,by omega⟩
       .exact VS ⟨by have:=c.1;simp at this;omega,c.2⟩
     have v1:=O r8;have p3:=O m8;have p2:=O l4;clear r2 r7 l9 m6 x2 r8 m8 l4 q7 q9 q6 e5 q3 X n8 u7 u8 u9 x6 a6
     go_roundw
     case rel=>exact⟨i+1,b3,fn+1,b4,_,by omega,by go_num,v1,p3,p2,by omega,by omega⟩
     case measure=>simp[intOf];omega
def iP.wf{D:Nat->Prop}{w:World}{x:gR}{f v s k:iJ}(h:iP D w x f v s k):S0 x where
 fs:=by have:=h.fs.1;omega
 ws:=by have:=h.ws.1;omega
 l:=fun y g=>by
  obtain⟨i,hi,rfl⟩:=dJ g;have h1:=h.l.1;obtain⟨b,off,q,cs,e,m,d,⟨a,n,c,_,j,_⟩,_⟩:=h.l.at (i:=i) (by omega);rw[ae hi]at d;cases d;have:=j.1;omega
 cf:=fun y g=>by
  obtain⟨i,hi,rfl⟩:=dJ g;have h1:=h.cf.1;obtain⟨b,off,q,cs,e,m,d,⟨a,n,c,_,j,_⟩,_⟩:=h.cf.at (i:=i) (by omega);rw[ae hi]at d;cases d;have:=j.1;omega
def OR{x}(h:iI x=true):wI x=.tuple #[.string (bs (nO x)),oZ]:=by unfold wI;rw[aq h,aq h]
def I8:(prog.types[37]'(by decide+kernel)).size=9:=by kernel_rfl
structure OS (w:World) (x:rz) (c:Int) (s f v k:iJ) (n:Nat->Int) (wx:World):Prop where
 d:Sj wx w x c s f v k
 a:Ik wx (w+1) n
 b:Below w w wx
def OS.go{w g i x c s f v k}{n:Nat->Int}(h:OS w x c s f v k n g)(e:Below g g i):OS w x c s f v k n i:=
 ⟨(e.block _ (TK h.d)).trans h.d,(e.block _ (TK h.a)).trans h.a,I h.b e⟩
def Sj.cells{w g x c s f v k}(h:Sj w g x c s f v k):w.cell? (J g)=some (.slice s.a s.n s.c)/\w.cell? ⟨g,1,none⟩=some (.int .u8 x.stop)/\w.cell? ⟨g,2,none⟩=some (.int .u16 x.far)/\w.cell? ⟨g,3,none⟩=some (.int .u8 x.p9)/\w.cell? ⟨g,4,none⟩=some (.slice f.a f.n f.c)/\w.cell? ⟨g,5,none⟩=some (.slice v.a v.n v.c)/\w.cell? ⟨g,6,none⟩=some (.int .u8 x.prim)/\w.cell? ⟨g,7,none⟩=some (.int .i16 x.image)/\w.cell? ⟨g,8,none⟩=some (.slice k.a k.n k.c)/\w.cell? ⟨g,9,none⟩=some (.int .u8 c):=
 ⟨(gA h 0).trans rfl,(gA h 1).trans rfl,(gA h 2).trans rfl,(gA h 3).trans rfl,(gA h 4).trans rfl,(gA h 5).trans rfl,(gA h 6).trans rfl,(gA h 7).trans rfl,(gA h 8).trans rfl,(gA h 9).trans rfl⟩
def VN(a):(bs a).extract 0 (min (a.length:Int) 60).toNat=bs (a.take 60):=by
 rw[Nz,dW,gk];congr 1;by_cases h:a.length<=60
 .rw[aM (by omega),aM h]
 .rw[show(min (a.length:Int) 60).toNat=60 by omega]
def VO(a:List UInt8):min (min (a.length:Int) 60).toNat a.length=(a.take 60).length:=by rw[bn];omega
def Uv(l:List UInt8):List UInt8:=l.filter fun c=>c !=10
def Vp(l):∀b∈Uv l,b≠10:=fun b a=>by
 have:=(List.mem_filter.1 a).2;simpa using this
def UI(l):(Uv l).length<=l.length:=List.length_filter_le _ _
def U2(L:List UInt8)(j)(a:j<L.length):Uv (L.take (j+1))=Uv (L.take j)++(if(L.getD j 0).toNat=10 then[]else[L.getD j 0]):=by
 rw[dV a,ah,ae a];unfold Uv;rw[dO];congr 1
 show[L[j]].filter _=if L[j].toNat=10 then[]else[L[j]]
 by_cases h:L[j]=10
 .rw[h];rfl
 .have b:¬L[j].toNat=10:=fun e=>h (fN.1 e)
  rw[aj b];simp[h]
structure Vv (L:List UInt8) (b:Nat) (w0:World) (l:List UInt8) (wx:World):Prop where
 bw:BW (b+2) b l wx
 cs:∀j,j<L.length->wx.cell? ⟨b+1,j,none⟩=some (.int .u8 (L.getD j 0).toNat)
 lo:Below b w0 wx
 sz:b+2<=wx.heap.size
def Vx(L:List UInt8)(w0:World):Vv L w0 w0 [] (Lib.bytesWorld (w0.alloc (.cells #[.pointer none,oN] 86)) 5 (bs L)) where
 bw:=⟨by omega,.pointer none,oN,VR rfl,(Lib.bytesWorld_at_old _ _ _ _ (by simp)).trans (TL w0 _),World.ownsRow_nil _ _ _ _⟩
 cs:=fun j a=>by
  have:=Lib.bytesWorld_cell (w0.alloc (.cells #[.pointer none,oN] 86)) 5 (bs L) j a;simpa using this
 lo:=by
  unfold Lib.bytesWorld;exact Lib.below_freeze (((TH _ _).alloc (aa _) _).drew.alloc (by simp) _) (p:=⟨_,_,none⟩) (by simp) _
 sz:=by rw[Lib.bytesWorld_size];simp
def Vv.step{L:List UInt8}{b:Nat}{w0 c a:World}{l l':List UInt8}(h:Vv L b w0 l c)(d:BW (b+2) b l' a)(hf:BF (b+2) b c a):Vv L b w0 l' a where
 bw:=d
 cs:=fun j f=>by
  rw[<- h.cs j f];have e:=hf.mid (b+1) (by omega) (by omega);simp only[World.cell?,e]
 lo:=h.lo.trans hf.lo
 sz:=af h.sz hf.lo.size
def Vz(b x1 x2 w):((Sem.run prog (Instr.index 83 (Value.agg #[b,x1,x2]) (Value.int IntKind.i64 0)) w).andThen fun a w'=>Result.ok (Next.value a) w')=Result.ok (Next.value b) w:=by kernel_rfl
def VA(b x1 x2 w):((Sem.run prog (Instr.index 83 (Value.agg #[b,x1,x2]) (Value.int IntKind.i64 1)) w).andThen fun a w'=>Result.ok (Next.value a) w')=Result.ok (Next.value x1) w:=by kernel_rfl
def VB(b x1 x2 w):((Sem.run prog (Instr.index 83 (Value.agg #[b,x1,x2]) (Value.int IntKind.i64 2)) w).andThen fun a w'=>Result.ok (Next.value a) w')=Result.ok (Next.value x2) w:=by kernel_rfl
def Vc{q}{n:Nat}(h:og q)(a:0<n):∃k:Nat,(wrap64 q).tmod (n:Int)=(k:Int)/\k=q.toNat%n/\k<n:=by
 have b:0<=q/\q<=255:=h
 have hw:wrap64 q=q:=by unfold wrap64;omega
 refine⟨q.toNat%n,?_,rfl,cx _ a⟩;rw[hw,show q=((q.toNat:Nat):Int)by omega];rfl
def Ux:∀(L:List (List UInt8))(k:Nat),(L.getD k []).length<=(Uj L).length
 |[],k=>by simp
 |[x],0=>by simp[Uj]
 |[x],k+1=>by simp
 |x::y::l,0=>by rw[Uj,al];simp
 |x::y::l,k+1=>by
  have:=Ux (y::l) k;rw[Uj,al,aH];simp only[eA];omega
def UK:∀L:List (List UInt8),L.length<=(Uj L).length+1
 |[]=>by simp
 |[x]=>by simp
 |x::y::l=>by
  have:=UK (y::l);rw[Uj,al];simp only[aH]at this⊢;omega
def VQ(p:Nat->Int):Value:=.agg #[.int .u8 (p 0),.int .u8 (p 1),.int .u8 (p 2)]
structure Vw (w:World) (x:rz) (c:Int) (s f v k:iJ) (n p:Nat->Int) (wx:World):Prop where
 l:OS w x c s f v k n wx
 p:wx.heap[w.heap.size+2]? =some (.cells #[.int .u8 (p 0),.int .u8 (p 1),.int .u8 (p 2)] 83)
def Vw.go{w a d x c s f v k}{n p:Nat->Int}(h:Vw w x c s f v k n p a)(b:Below a a d):Vw w x c s f v k n p d:=
 ⟨h.l.go b,(b.block _ (TK h.p)).trans h.p⟩
def VG(x c s f v k)(n p:Nat->Int)(i3 w)(hx:xU (fun b=>b<w.heap.size) w x s f v k)(hc:og c)(hn:∀i,og (n i))(hp:∀i,og (p i))(hw:KW w):
 Calls prog 7 #[Fh x c s f v k,Nw n,VQ p,.string (bs i3)] w (iZ w (.bool true)):=by
 obtain⟨e1,e2,e3⟩:=jh w (.cells (qd x c s f v k).toArray 30) (.cells #[.int .u8 (n 0),.int .u8 (n 1),.int .u8 (n 2),.int .u8 (n 3),.int .u8 (n 4),.int .u8 (n 5),.int .u8 (n 6),.int .u8 (n 7)] 31) (.cells #[.int .u8 (p 0),.int .u8 (p 1),.int .u8 (p 2)] 83);have hb:=oF w (.cells (qd x c s f v k).toArray 30) (.cells #[.int .u8 (n 0),.int .u8 (n 1),.int .u8 (n 2),.int .u8 (n 3),.int .u8 (n 4),.int .u8 (n 5),.int .u8 (n 6),.int .u8 (n 7)] 31) (.cells #[.int .u8 (p 0),.int .u8 (p 1),.int .u8 (p 2)] 83);have Hx:=O hx;have Hw:=O hw;have Hn:=O hn;have Hp:=O hp;have H0:=O (⟨⟨e1,e2,hb⟩,e3⟩:Vw w x c s f v k n p _);clear hx hw hn hp e1 e2 e3 hb;unfold Fh Nw VQ;go_enter func7,ntmps7;go_upto_region 1 with fail;refine gI (Vw w x c s f v k n p) H0 ?_;clear H0;rintro w1 h1;have H1:=O h1;clear h1;go_wp2_with fail;refine(Mc w1 (Hw.go H1.l.b)).mono ?_;rintro e H ⟨rfl,j9⟩;have H2:=O (H1.go j9);clear j9 H1;go_upto_region 3 with fail
 go_cut [9] (fun pv wx=>∃(g:Nat)(z:gR)(M Q zs N:iJ),pv=.pointer (J g)/\hU wx g 37 z M Q zs N/\iP (fun b=>b<wx.heap.size) wx z M Q zs N/\iI z=true/\g<wx.heap.size/\Below H H wx)
 case first=>
  obtain⟨d0,d1,d2,d3,d4,d5,d6,d7,d8,d9⟩:=H2.l.d.cells;obtain⟨a0,a1,a2,a3,a4,a5,a6,a7⟩:=H2.l.a.cells;have l0:=TK H2.l.d;have l1:=TK H2.l.a;refine jw (H.heap.size) [0,3] 5 (by kernel_rfl) rfl (by kernel_rfl) (by kernel_rfl) (fun _ _ o _ _ h=>by cases o<;>exact h) ?_
  iterate 2
   refine jW (v:=?_) rfl (by rfl) ?_ ?_;rotate_left
   .intro y t
    have y0:=(t.cell (p:=J (w.heap.size)) l0).trans d0;have y1:=(t.cell (p:=⟨w.heap.size,1,none⟩) l0).trans d1;have y2:=(t.cell (p:=⟨w.heap.size,2,none⟩) l0).trans d2;have y3:=(t.cell (p:=⟨w.heap.size,3,none⟩) l0).trans d3;have y4:=(t.cell (p:=⟨w.heap.size,4,none⟩) l0).trans d4;have y5:=(t.cell (p:=⟨w.heap.size,5,none⟩) l0).trans d5;have y6:=(t.cell (p:=⟨w.heap.size,6,none⟩) l0).trans d6;have y7:=(t.cell (p:=⟨w.heap.size,7,none⟩) l0).trans d7;have y8:=(t.cell (p:=⟨w.heap.size,8,none⟩) l0).trans d8;have y9:=(t.cell (p:=⟨w.heap.size,9,none⟩) l0).trans d9;have q0:=(t.cell (p:=J (w+1)) l1).trans a0;have q1:=(t.cell (p:=⟨w.heap.size+1,1,none⟩) l1).trans a1;have q2:=(t.cell (p:=⟨w.heap.size+1,2,none⟩) l1).trans a2;have q3:=(t.cell (p:=⟨w.heap.size+1,3,none⟩) l1).trans a3;have q4:=(t.cell (p:=⟨w.heap.size+1,4,none⟩) l1).trans a4;have q5:=(t.cell (p:=⟨w.heap.size+1,5,none⟩) l1).trans a5;have q6:=(t.cell (p:=⟨w.heap.size+1,6,none⟩) l1).trans a6;have q7:=(t.cell (p:=⟨w.heap.size+1,7,none⟩) l1).trans a7;go_simp;with_reducible rfl
   try simp only[V]
  refine mB ?_;clear d0 d1 d2 d3 d4 d5 d6 d7 d8 d9 a0 a1 a2 a3 a4 a5 a6 a7;have e0:=O (jA (TH H H));generalize H.drew=wd at*;refine CV (i:=1) (j:=5) (by kernel_rfl) rfl rfl rfl rfl (fun K r=>?_) (fun K r=>?_)
  .go_simp
   refine(zW x c s f v k _ (Hx.kept (gE (I H2.l.b e0)) (fun b h=>ab h (I H2.l.b e0).size)) hc).mono ?_;rintro e B ⟨y,yf,yv,ys,yk,yp,he,t,u,-,b1⟩;unfold If at he;subst he;refine r _ _ (b1.mono e0.size) ?_;clear r K;(try simp only[V]);have g4:=O e0.size;have Hy:=O t;have b5:=O u;have b2:=O (I e0 b1);clear t u b1;refine CV (i:=2) (j:=5) (by kernel_rfl) rfl rfl rfl rfl (fun K r=>?_) (fun K r=>?_)
   .go_simp
    refine r _ _ (TH _ _) ?_;clear r K;(try simp only[V]);(try simp only[I8,dI,dU]);refine CV (i:=4) (j:=5) (by kernel_rfl) rfl rfl rfl rfl (fun K r=>?_) (fun K r=>?_)
    .go_simp
     refine(ph y yf yv ys yk n B (fun b=>wd.heap.size<=b/\b<B.heap.size) (fun b h=>h.2) Hy b5 Hn).mono ?_;rintro e wf ⟨z,M,Q,zs,N,he,hat,b4,-,hq⟩;unfold jG at he;subst he;have F:Below H B wf:=hq.below (fun b h=>af g4 h.1) b2.size;refine r _ _ F ?_;clear r K;try simp only[V]
     have X:=O (hat.kept (T:=fun b=>b<wf.heap.size) (gN.refl _ _) (fun b h=>by
      have h3:=hq.size
      obtain h|h:=h
      .exact ab h.2 (by omega)
      .exact h.2))
     have f1:=O b4;have b8:=O (b2.trans F);clear hat b4 hq F;refine ia (i:=5) (fun K r=>?_);go_simp;have A:=(TH wf wf).alloc (aa _) (.cells #[.string ⟨#[]⟩,oZ,oZ,oZ,oZ,oN,oN,oN,oN] 37);have q:=TL wf (.cells #[.string ⟨#[]⟩,oZ,oZ,oZ,oZ,oN,oN,oN,oN] 37);refine r _ _ (A.mono b8.size) ?_;clear r K;(try simp only[V]);have X:=O (X.kept (T:=fun b=>b<(wf.alloc (.cells #[.string ⟨#[]⟩,oZ,oZ,oZ,oZ,oN,oN,oN,oN] 37)).heap.size/\b≠wf.heap.size) (gE A) (fun b h=>⟨ab h A.size,Nat.ne_of_lt h⟩));have f0:=O (show H.heap.size<=wf.heap.size from b8.size);have m:=O q;have a8:=O (I b8 A);clear q A;generalize wf.alloc (.cells #[.string ⟨#[]⟩,oZ,oZ,oZ,oZ,oN,oN,oN,oN] 37)=wz at*;refine mm (i:=6) (fun K r=>?_);refine ja z M Q zs N m rfl rfl (.tmp 9) (.tmp 25) rfl rfl rfl ?_;intro w7 h7 e7;have b3:=f0.out;refine r _ _ (by rw[e7];exact ig b3 _ _ (TH _ _)) ?_;clear r K
     have a9:=O (show iP (fun b=>b<w7.heap.size) w7 z M Q zs N by
      rw[e7]
      exact X.kept ((gK _ _ 0 _).mono (fun b h=>h.2)) (fun b h=>by rw[im];exact h.1))
     have e9:=O (show Below H H w7 by rw[e7];exact ig b3 _ _ a8);have R:=O h7;clear h7 e7;refine lH (by kernel_rfl) ?_;(try simp only[V]);go_wp2_with fail;go_meet;exact⟨_,z,M,Q,zs,N,rfl,R,a9,f1,TK R,e9⟩
    .go_simp
     have A:=(TH B B).alloc (aa _) (.cells #[.string ⟨#[]⟩,oZ,oZ,oZ,oZ,oN,oN,oN,oN] 37);have q:=TL B (.cells #[.string ⟨#[]⟩,oZ,oZ,oZ,oZ,oN,oN,oN,oN] 37);refine r _ _ (A.mono b2.size) ?_;clear r K;(try simp only[V]);have Hy:=O (Hy.go (E:=fun b=>wd.heap.size<=b/\b<B.heap.size) A (fun b h=>h.2) (fun b h=>h));have e5:=O (VS (aa _):B.heap.size<wd.heap.size\/B.heap.size<=B.heap.size);have g6:=O A.size;have f0:=O (show H.heap.size<=B.heap.size from b2.size);have m:=O q;have a8:=O (I b2 A);clear q A;generalize B.alloc (.cells #[.string ⟨#[]⟩,oZ,oZ,oZ,oZ,oN,oN,oN,oN] 37)=wz at*;refine ia (i:=4) (fun K r=>?_);go_simp;refine(ph y yf yv ys yk n wz (fun b=>wd.heap.size<=b/\b<B.heap.size) (fun b h=>ab h.2 g6) Hy b5 Hn).mono ?_;rintro e wf ⟨z,M,Q,zs,N,he,hat,b4,-,hq⟩;unfold jG at he;subst he;have F:Below H wz wf:=hq.below (fun b h=>af g4 h.1) a8.size;refine r _ _ F ?_;clear r K;try simp only[V]
     have c9:=O (hat.kept (T:=fun b=>b<wf.heap.size/\b≠B.heap.size) (gN.refl _ _) (fun b h=>by
      have h1:=TK m;have h2:=e5.out;have h3:=hq.size
      obtain h|h:=h
      .exact⟨by have h4:=g6.out;omega,by omega⟩
      .exact⟨h.2,by omega⟩))
     have q:=O ((hq.kept _ ⟨TK m,fun h=>by have h2:=e5.out;omega⟩).trans m);have m:=q;have X:=c9;have f1:=O b4;have b8:=O (a8.trans F);clear hat b4 hq F;refine mm (i:=6) (fun K r=>?_);refine ja z M Q zs N m rfl rfl (.tmp 9) (.tmp 25) rfl rfl rfl ?_;intro w7 h7 e7;have b3:=f0.out;refine r _ _ (by rw[e7];exact ig b3 _ _ (TH _ _)) ?_;clear r K
     have a9:=O (show iP (fun b=>b<w7.heap.size) w7 z M Q zs N by
      rw[e7]
      exact X.kept ((gK _ _ 0 _).mono (fun b h=>h.2)) (fun b h=>by rw[im];exact h.1))
     have e9:=O (show Below H H w7 by rw[e7];exact ig b3 _ _ b8);have R:=O h7;clear h7 e7;refine lH (by kernel_rfl) ?_;(try simp only[V]);go_wp2_with fail;go_meet;exact⟨_,z,M,Q,zs,N,rfl,R,a9,f1,TK R,e9⟩
   .go_simp
    have A:=(TH B B).alloc (aa _) (.cells #[.string ⟨#[]⟩,oZ,oZ,oZ,oZ,oN,oN,oN,oN] 37);have q:=TL B (.cells #[.string ⟨#[]⟩,oZ,oZ,oZ,oZ,oN,oN,oN,oN] 37);refine r _ _ (A.mono b2.size) ?_;clear r K;(try simp only[V]);have Hy:=O (Hy.go (E:=fun b=>wd.heap.size<=b/\b<B.heap.size) A (fun b h=>h.2) (fun b h=>h));have e5:=O (VS (aa _):B.heap.size<wd.heap.size\/B.heap.size<=B.heap.size);have g6:=O A.size;have f0:=O (show H.heap.size<=B.heap.size from b2.size);have m:=O q;have a8:=O (I b2 A);clear q A;generalize B.alloc (.cells #[.string ⟨#[]⟩,oZ,oZ,oZ,oZ,oN,oN,oN,oN] 37)=wz at*;refine ia (i:=2) (fun K r=>?_);go_simp;refine r _ _ (TH _ _) ?_;clear r K;(try simp only[V]);(try simp only[I8,dI,dU]);refine ia (i:=4) (fun K r=>?_);go_simp;refine(ph y yf yv ys yk n wz (fun b=>wd.heap.size<=b/\b<B.heap.size) (fun b h=>ab h.2 g6) Hy b5 Hn).mono ?_;rintro e wf ⟨z,M,Q,zs,N,he,hat,b4,-,hq⟩;unfold jG at he;subst he;have F:Below H wz wf:=hq.below (fun b h=>af g4 h.1) a8.size;refine r _ _ F ?_;clear r K;try simp only[V]
    have c9:=O (hat.kept (T:=fun b=>b<wf.heap.size/\b≠B.heap.size) (gN.refl _ _) (fun b h=>by
     have h1:=TK m;have h2:=e5.out;have h3:=hq.size
     obtain h|h:=h
     .exact⟨by have h4:=g6.out;omega,by omega⟩
     .exact⟨h.2,by omega⟩))
    have q:=O ((hq.kept _ ⟨TK m,fun h=>by have h2:=e5.out;omega⟩).trans m);have m:=q;have X:=c9;have f1:=O b4;have b8:=O (a8.trans F);clear hat b4 hq F;refine mm (i:=6) (fun K r=>?_);refine ja z M Q zs N m rfl rfl (.tmp 9) (.tmp 25) rfl rfl rfl ?_;intro w7 h7 e7;have b3:=f0.out;refine r _ _ (by rw[e7];exact ig b3 _ _ (TH _ _)) ?_;clear r K
    have a9:=O (show iP (fun b=>b<w7.heap.size) w7 z M Q zs N by
     rw[e7]
     exact X.kept ((gK _ _ 0 _).mono (fun b h=>h.2)) (fun b h=>by rw[im];exact h.1))
    have e9:=O (show Below H H w7 by rw[e7];exact ig b3 _ _ b8);have R:=O h7;clear h7 e7;refine lH (by kernel_rfl) ?_;(try simp only[V]);go_wp2_with fail;go_meet;exact⟨_,z,M,Q,zs,N,rfl,R,a9,f1,TK R,e9⟩
  .go_simp
   have A:=(TH wd wd).alloc (aa _) (.cells #[.string ⟨#[]⟩,oZ,oZ,oZ,oZ,oN,oN,oN,oN] 37);have q:=TL wd (.cells #[.string ⟨#[]⟩,oZ,oZ,oZ,oZ,oN,oN,oN,oN] 37);refine r _ _ (A.mono e0.size) ?_;clear r K;(try simp only[V]);have f0:=O (show H.heap.size<=wd.heap.size from e0.size);have m:=O q;have a8:=O (I e0 A);clear q A;generalize wd.alloc (.cells #[.string ⟨#[]⟩,oZ,oZ,oZ,oZ,oN,oN,oN,oN] 37)=wz at*;refine ia (i:=1) (fun K r=>?_);go_simp;refine(zW x c s f v k _ (Hx.kept (gE (I H2.l.b a8)) (fun b h=>ab h (I H2.l.b a8).size)) hc).mono ?_;rintro e B ⟨y,yf,yv,ys,yk,yp,he,t,u,-,b1⟩;unfold If at he;subst he;refine r _ _ (b1.mono a8.size) ?_;clear r K;(try simp only[V]);have g4:=O a8.size;have q:=O ((b1.block _ (TK m)).trans m);have e5:=O (VR (TK m):wd.heap.size<wz.heap.size\/B.heap.size<=wd.heap.size);have m:=q;have Hy:=O t;have b5:=O u;have b2:=O (I a8 b1);clear t u b1;refine ia (i:=2) (fun K r=>?_);go_simp;refine r _ _ (TH _ _) ?_;clear r K;(try simp only[V]);(try simp only[I8,dI,dU]);refine ia (i:=4) (fun K r=>?_);go_simp;refine(ph y yf yv ys yk n B (fun b=>wz.heap.size<=b/\b<B.heap.size) (fun b h=>h.2) Hy b5 Hn).mono ?_;rintro e wf ⟨z,M,Q,zs,N,he,hat,b4,-,hq⟩;unfold jG at he;subst he;have F:Below H B wf:=hq.below (fun b h=>af g4 h.1) b2.size;refine r _ _ F ?_;clear r K;try simp only[V]
   have c9:=O (hat.kept (T:=fun b=>b<wf.heap.size/\b≠wd.heap.size) (gN.refl _ _) (fun b h=>by
    have h1:=TK m;have h2:=e5.out;have h3:=hq.size
    obtain h|h:=h
    .exact⟨by omega,by omega⟩
    .exact⟨h.2,by omega⟩))
   have q:=O ((hq.kept _ ⟨TK m,fun h=>by have h2:=e5.out;omega⟩).trans m);have m:=q;have X:=c9;have f1:=O b4;have b8:=O (b2.trans F);clear hat b4 hq F;refine mm (i:=6) (fun K r=>?_);refine ja z M Q zs N m rfl rfl (.tmp 9) (.tmp 25) rfl rfl rfl ?_;intro w7 h7 e7;have b3:=f0.out;refine r _ _ (by rw[e7];exact ig b3 _ _ (TH _ _)) ?_;clear r K
   have a9:=O (show iP (fun b=>b<w7.heap.size) w7 z M Q zs N by
    rw[e7]
    exact X.kept ((gK _ _ 0 _).mono (fun b h=>h.2)) (fun b h=>by rw[im];exact h.1))
   have e9:=O (show Below H H w7 by rw[e7];exact ig b3 _ _ b8);have R:=O h7;clear h7 e7;refine lH (by kernel_rfl) ?_;(try simp only[V]);go_wp2_with fail;go_meet;exact⟨_,z,M,Q,zs,N,rfl,R,a9,f1,TK R,e9⟩
 case rest=>
  obtain⟨g,z,M,Q,zs,N,rfl,hz,hat,u,hg,i4⟩:=hcut;have h8:=Vt u hat.wf;have f5:=UM z;have e8:=U4 u;have h9:=US u;have b6:=UT z
  have i7:∀W,KW W-> ∀f v s k,iP (fun b=>b<W.heap.size) W z f v s k->Calls prog 11 #[jG z f v s k] W (iZ W (.tuple #[.string (bs (nO z)),oZ])):=fun W hW f v s k ha=>by
   rw[<- OR u];exact CB z f v s k W ha hW.g hW.P hW.T (fun _=>by have:=Gf u;omega)
  rw[f5]at i7;generalize Un z=C at*;have HP:=O ((i4.block _ (TK H2.p)).trans H2.p);have Hz:=O hz;have X:=O hat;have i1:=O (I H2.l.b i4);have j6:=O i7;have b5:=O u;have h5:=O h8;have e4:=O e8;have b9:=O h9;have j0:=O b6;have Hg:=O hg;clear hz hat i4 i7 u h8 e8 h9 b6 hg f5 H2
  go_wp2_with(refine it Hz rfl (.tmp 9) rfl rfl ?_)
  refine(j6 _ (Hw.go i1) M Q zs N X).mono ?_;rintro e w4 ⟨rfl,f4⟩;have i0:=O ((f4.block _ (TK HP)).trans HP);have j7:=O (Hz.go f4);have g8:=O (X.go f4);have g9:=O (I i1 f4);have l6:=O (ab Hg f4.size);clear f4 HP Hz X i1 j6 Hg
  have kc:=fun(W:World)(S:ByteArray)=>Lib.run_convert_string_bytes (P:=prog) W 9 24 5 S underlying9 underlying24 underlying5
  go_wp2_with fail;simp only[VN,VO];generalize grownCap _ _ _ _=cap
  have j1:(i3.take 60).length<=60:=by rw[bn];omega
  generalize i3.take 60=L at*;have H5:=O (Vx L w4);generalize hbb:w4.heap.size=b0 at*;have f2:=UI L
  go_loopw [40] (fun v wr=>∃j:Nat,v=.int .i64 j/\j<=L.length/\Vv L b0 w4 (Uv (L.take j)) wr) (fun v _=>L.length-(intOf v).toNat)
  case atStart=>exact⟨0,rfl,by omega,H5⟩
  case round=>
   obtain⟨j,rfl,hj,hC⟩:=hrel;have HC:=O hC;by_cases l4:j=L.length
   .subst l4
    clear hC;have i5:=f2;rw[bf]at HC;have k5:=Vp L;generalize Uv L=cm at*;have f9:=O (I g9 (show Below w4 w4 wr by rw[hbb];exact HC.lo));have j5:=O k5;have j3:=O (af i5 j1);clear k5 i5 f2;go_wp2_with fail;refine(Vi (Uj C) wr (by have:=b9.out;omega)).mono ?_;rintro e w5 ⟨rfl,k2⟩;have h0:=O k2;clear k2;go_wp2_with fail
    have hgl:b0<w5.heap.size:=by have:=HC.sz;have:=h0.size;omega
    have k7:Calls prog 27 #[.string (bs (Uj C)),.string (bs [10])] w5 fun e w'=>e=.returned (.slice (J (w5.heap.size)) C.length C.length)/\Vl C w5 b0 cm w4 w':=by
     refine(Iq (Uj C) w5 (Hw.go (I f9 h0)).g (by have:=b9.out;omega)).mono ?_;rintro e w6 ⟨rfl,rfl⟩;rw[e4];have b1:=I h0 (gY (TH w5 w5) (o:=.cells (ji C).toArray 9))
     exact⟨rfl,hgl,TL w5 _,UY HC.bw.f (b1.block _ (by have:=HC.sz;omega)) (fun k cs fz hk=>b1.block _ (TK hk)),
      HC.lo.trans (b1.mono (by have:=HC.sz;omega)),by simp;omega⟩
    clear e4 HC f9;generalize w5.heap.size=gl at*;refine k7.mono ?_;rintro e w7 ⟨rfl,h7⟩;have R:=O h7;clear h7 h0 hgl k7
    have k3:Below w4 w4 w7:=by rw[hbb];exact R.lo
    have g7:=O ((k3.block _ (TK i0)).trans i0);clear k3;have q0:=gA g7 0;have q1:=gA g7 1;have q2:=gA g7 2;go_wp2_with fail;clear q0 q1 q2;have b6:=j0.out;have b7:=O (Vs (fun i=>(p i).toNat) (h5 (p 0).toNat (p 1).toNat (p 2).toNat j5 j3));clear h5 j5
    go_loopw [53] (fun v wr=>∃i:Nat,v=.int .i64 i/\i<=3/\Vl (Uk cm C (fun i=>(p i).toNat) i) gl b0 cm w4 wr) (fun v _=>3-(intOf v).toNat)
    case atStart=>exact⟨0,rfl,by omega,R⟩
    case round=>
     obtain⟨i,rfl,hi,hS⟩:=hrel;have HS:=O hS;clear hS;by_cases k9:i=3
     .subst k9
      have h6:Below w4 w4 wr:=by rw[hbb];exact HS.lo
      have j8:=O (j7.go h6);have i8:=O ((show iP (fun b=>b<w4.heap.size) w4 z M Q zs N by rw[hbb];exact g8).go h6);have j2:=O (I g9 h6);have Hr:=O b7.1;have j4:=O b7.2.1;have HD:=O (Ul cm C (fun i=>(p i).toNat) 3);clear h6 j7 g8 g9 i0 g7 R b7;generalize Uk cm C (fun i=>(p i).toNat) 3=D at*;go_wp2_with fail;obtain⟨c0,c1,c2,c3,c4,c5,c6,c7,c8⟩:=j8.cells;have lg:=TK j8;refine gS 4 [(0,true),(2,true),(1,false),(3,false)] (by kernel_rfl) (by kernel_rfl) ?_
      iterate 2
       refine gU (v:=?_) ?_ ?_;rotate_left
       .intro y t
        have y0:=(t.cell (p:=J g) lg).trans c0;have y1:=(t.cell (p:=⟨g,1,none⟩) lg).trans c1;have y2:=(t.cell (p:=⟨g,2,none⟩) lg).trans c2;have y3:=(t.cell (p:=⟨g,3,none⟩) lg).trans c3;have y4:=(t.cell (p:=⟨g,4,none⟩) lg).trans c4;have y5:=(t.cell (p:=⟨g,5,none⟩) lg).trans c5;have y6:=(t.cell (p:=⟨g,6,none⟩) lg).trans c6;have y7:=(t.cell (p:=⟨g,7,none⟩) lg).trans c7;have y8:=(t.cell (p:=⟨g,8,none⟩) lg).trans c8;go_simp;with_reducible rfl
       try simp only[V]
      refine gP (fun K r=>?_);go_simp;have Hd:=O (jA (TH wr wr));have hj:=Va D gl C.length wr.drew (HS.go Hd).ln (by rw[HD];exact aa _) (by rw[HD];have:=UK C;have:=b9.out;omega) (by have:=j4.out;omega);rw[HD]at hj;refine hj.mono ?_;rintro e l5 ⟨rfl,f7⟩;have f6:=O (I Hd f7);refine r _ _ f7 ?_;clear r K hj f7 c0 c1 c2 c3 c4 c5 c6 c7 c8;(try simp only[V]);refine gP (fun K r=>?_);go_simp;have i6:=CE (Uj D) z Hr M Q zs N l5 (i8.go f6) (Hw.go (I j2 f6)) (by have:=j4.out;omega);unfold jG at i6;refine i6.mono ?_;rintro e l9 ⟨rfl,f8⟩;have i9:=O f8;refine r _ _ f8 ?_;clear r K i6 f8;(try simp only[V]);refine iu rfl ?_;go_wp2_with fail;go_ret;exact⟨rfl,I (I j2 f6) i9⟩
     .obtain rfl|rfl|rfl:i=0\/i=1\/i=2:=by omega
      .go_wp2_with fail
       rw[Vz];refine kJ ?_;simp only[V];obtain⟨k0,hm,e6,hlt⟩:=Vc (Hp 0) b6;have g2:=O e6;clear e6;obtain⟨r0,r1⟩:=HS.at (k:=k0) (by rw[Ul];exact hlt);generalize hcc:(Uk cm C (fun i=>(p i).toNat) 0).getD k0 []=c0 at r0
       have f2:c0.length<=(Uj C).length:=by rw[<- hcc];exact Ux C k0
       have l8:(Ur c0).length<=100000:=by have:=U6 c0;have:=List.count_le_length (a:=(32:UInt8)) (l:=c0);have:=b9.out;omega
       have g1:=O hcc;have k8:=O f2;clear hcc f2;go_wp2_with fail;have f9:=O (I g9 (show Below w4 w4 wr by rw[hbb];exact HS.lo));refine(VC c0 wr (Hw.go f9).g (by have:=b9.out;have:=k8.out;omega)).mono ?_;rintro e w8 ⟨rfl,g5⟩;have H8:=O (HS.go g5);clear g5 r0 r1 HS f9;obtain⟨r0,r1⟩:=H8.at (k:=k0) (by rw[Ul];exact hlt);go_wp2_with fail
       go_roundw
       case measure=>simp[intOf]
       case rel=>
        have e1:Uk cm C (fun i=>(p i).toNat) (0+1)=(Uk cm C (fun i=>(p i).toNat) 0).set k0 (Vn c0):=by
         show Uu cm 0 (Uk cm C (fun i=>(p i).toNat) 0) (p 0).toNat=_
         unfold Uu Up;rw[aq rfl,Ul,<- g2,g1]
        exact⟨1,by go_num,by omega,by rw[e1];exact H8.set k0 (Vn c0)⟩
      .go_wp2_with fail
       rw[VA];refine kJ ?_;simp only[V];obtain⟨k0,hm,e6,hlt⟩:=Vc (Hp 1) b6;have g2:=O e6;clear e6;obtain⟨r0,r1⟩:=HS.at (k:=k0) (by rw[Ul];exact hlt);generalize hcc:(Uk cm C (fun i=>(p i).toNat) 1).getD k0 []=c0 at r0
       have f2:c0.length<=14000:=by rw[<- hcc];exact af (Ux _ k0) b7.2.2.2
       have g1:=O hcc;clear hcc;go_wp2_with fail
       go_roundw
       case measure=>simp[intOf]
       case rel=>
        have e1:Uk cm C (fun i=>(p i).toNat) (1+1)=(Uk cm C (fun i=>(p i).toNat) 1).set k0 (Vo c0):=by
         show Uu cm 1 (Uk cm C (fun i=>(p i).toNat) 1) (p 1).toNat=_
         unfold Uu Us;rw[aj (by decide),aq rfl,Ul,<- g2,g1]
        exact⟨2,by go_num,by omega,by rw[e1];exact HS.set k0 (Vo c0)⟩
      .go_wp2_with fail
       rw[VB];refine kJ ?_;simp only[V];obtain⟨k0,hm,e6,hlt⟩:=Vc (Hp 2) b6;have g2:=O e6;clear e6;obtain⟨r0,r1⟩:=HS.at (k:=k0) (by rw[Ul];exact hlt);generalize hcc:(Uk cm C (fun i=>(p i).toNat) 2).getD k0 []=c0 at r0
       have f2:c0.length<=14000:=by rw[<- hcc];exact af (Ux _ k0) b7.2.2.1
       have g1:=O hcc;clear hcc;have i5:cm.length<=60:=j3.out;go_wp2_with fail;refine kC (S:=fun x=>x=gl) 9 [(0,true),(4,true),(5,true),(6,true),(1,false),(2,true),(3,true),(7,true),(8,true)] (by kernel_rfl) (by kernel_rfl) ?_
       iterate 4
        refine kQ (v:=?_) ?_ ?_;rotate_left
        .intro y t
         have k1:=(t.cell (p:=⟨gl,k0,none⟩) rfl).trans r0;go_simp;with_reducible rfl
        try simp only[V]
       refine iT (fun K r=>?_);go_simp;have R:=O (HS.go (jA (TH _ _)));clear HS;refine(U8 b0 cm _ R.bd R.sz).mono ?_;rintro e w8 ⟨rfl,k4,g5,k6⟩;have H8:=O (R.str k4 g5 k6);refine r _ _ (fun x hx=>by subst hx;exact H8.ln.trans R.ln.symm) ?_;clear r K k4 g5 k6 R r0 r1;try simp only[V]
       iterate 4
        refine kQ (v:=?_) ?_ ?_;rotate_left
        .intro y t
         have l1:¬9223372036854775807<3+cm.length:=by omega
         have l2:¬9223372036854775807<3+cm.length+1:=by omega
         have l3:¬9223372036854775807<3+cm.length+1+c0.length:=by omega
         go_simp;with_reducible rfl
        try simp only[V]
       refine nK rfl ?_;obtain⟨r0,r1⟩:=H8.at (k:=k0) (by rw[Ul];exact hlt);go_wp2_with fail
       go_roundw
       case measure=>simp[intOf]
       case rel=>
        have e1:Uk cm C (fun i=>(p i).toNat) (2+1)=(Uk cm C (fun i=>(p i).toNat) 2).set k0 (UZ cm c0):=by
         show Uu cm 2 (Uk cm C (fun i=>(p i).toNat) 2) (p 2).toNat=_
         unfold Uu Uw;rw[aj (by decide),aj (by decide),Ul,<- g2,g1]
        have e2:({data:=#[32,32,35]}:ByteArray)++bs cm++{data:=#[10]}++bs c0=bs (UZ cm c0):=by
         show bs ((([32,32,35]++cm)++[10])++c0)=bs (UZ cm c0)
         congr 1;simp[UZ]
        exact⟨3,by go_num,by omega,by rw[e1,e2];exact H8.set k0 (UZ cm c0)⟩
   .have g0:=hC.cs j (by omega)
    have g3:j<L.length:=by omega
    clear hC;have f3:=U2 L j g3;generalize L.getD j 0=c0 at g0 f3;by_cases l7:(c0.toNat:Int)=10
    .rw[aq (by omega),bG]at f3
     have i2:=O f3;clear f3;go_wp2_with fail
     go_roundw
     case measure=>simp[intOf];omega
     case rel=>exact⟨j+1,by go_num,by omega,by rw[i2];exact HC⟩
    .rw[aj (by omega)]at f3
     have i2:=O f3;clear f3;go_wp2_with fail;refine(Vm (b0+2) b0 (Uv (L.take j)) c0 wr HC.bw (by have:=UI (L.take j);rw[bn]at this;omega) HC.sz).mono ?_;rintro e wx ⟨rfl,hB,hF⟩;have HB:=O hB;have HF:=O hF;clear hB hF;go_wp2_with fail
     go_roundw
     case measure=>simp[intOf];omega
     case rel=>exact⟨j+1,by go_num,by omega,by rw[i2];exact HC.step HB HF⟩
