import Derived.Test.YtlnbjinneegciabGreatDoorTAB
import Derived.Test.YtlnbjinneegciabGreatDoorTAC
import Derived.Lib.SpaceUEq
import Derived.Lib.SlBytesConst
import Derived.Lib.AppendIntMem
namespace Go.Proofs.YtlnbjinneegciabGreatDoor
set_option linter.all false
set_option maxRecDepth 100000
set_option maxHeartbeats 3200000
open Go.Proofs.Tryz Go.RowKit Go.Lib Go.Shelf
def S4(w:World)(k:Nat)(zs:List Int)(n:Nat)(e:Ending)(w':World):Prop:=
 ∃a c,e=.returned (.slice a n c)/\IRp (fun b=>w.heap.size<=b/\b<w'.heap.size) w' k a n c zs/\(a=none->c=0)/\Below w w w'
def lc{w:World}{base k n:Nat}{T:TypeId}{v:Value}{zs:List Int}(h:w.ownsRow base T k v n (zs.map (Value.int .i64))):∃a c,v=.slice a n c/\(a=none->c=0)/\IRp (fun b=>base<=b/\b<w.heap.size) w k a n c zs:=by
 have f:=h.1;rw[aU]at f
 obtain ⟨rfl,rfl⟩|⟨g,cap,p,rfl,l,m,o,s,t,u⟩:=id h.2
 .obtain rfl:zs=[]:=aX.1 (by rw[f,eB])
  exact⟨none,0,rfl,fun _=>rfl,IRp.nil _ _ _ _ _⟩
 .refine⟨_,cap,rfl,(fun e=>by cases e),f,o,fun r=>⟨g,0,rfl,⟨l,TK m⟩,fun j q=>?_⟩⟩
  have d:j<zs.length:=by omega
  have i:=h.cells (g:=g) rfl j (.int .i64 (zs.getD j 0)) (by rw[aR,ae d];simp[ah,d]);rw[Addr.add_mid]at i;exact i
def IRp.none{S:Nat->Prop}{w:World}{k n c:Nat}{zs:List Int}(h:IRp S w k Option.none n c zs):n=0/\zs=[]:=by
 have:n=0:=by
  apply bg;intro a
  obtain⟨b,off,e,_⟩:=h.2.2 (by omega);cases e
 subst this;exact⟨rfl,aX.1 (by rw[h.1,eB])⟩
def je{ops:Array Oper}{f:List Oper}{o:Oper}{a:Act}{Q:Exit->Act->World->Prop}{w:World}{T l:TypeId}{z:Value}{k d:Nat}(t:prog.underlying l=some (.slice T))(C:(prog.info? T).map (fun i=>(i.zero,i.size,i.bytes))=some (some z,k,d))(K:z.cells.size=k)(D:0<k)(y:d<=10000)
 (A:o.guard=none)(s x:Operand)
 (H:o.op=.call {callee:=.builtin .append,args:=#[s,x],argTypes:=#[l,l]})(base:Nat)(v:Value)(n:Nat)(xs:List Int)
 (hs:a.eval s=v)(hrow:w.ownsRow base T k v n (xs.map (Value.int .i64)))(S:Nat->Prop)(sp:Option Addr)(m c:Nat)(ys:List Int)(hx:a.eval x=.slice sp m c)(hy:IRp S w k sp m c ys)(r:sp=Option.none->c=0)(hn:n+m<=10000000)(hbase:base<=w.heap.size)
 (h:∀p w',w'.ownsRow base T k p (n+m) ((xs++ys).map (Value.int .i64))->w.grownBy w' v.ownBlock->wpList prog ops Q f (a.put o.dst p) w'):
 wpList prog ops Q (o::f) a w:=by
 have E:=hy.1;refine mS A s x l H base T z k d t C K D v n _ hs hrow sp m c (ys.map (Value.int .i64)) hx (by rw[aU,E]) ?_ (by simp[Value.oneCell']) ?_ (af (cB hn y) (by omega)) (by omega) hbase ?_
 .intro F
  obtain⟨b,off,e,_,r⟩:=hy.2.2 F;refine⟨b,off,e,fun j u g=>?_⟩
  have q:j<ys.length:=by
   apply bg;intro B
   rw[bz (by simp;omega)]at g;cases g
  have:=r j (by omega);rw[aR,ae q]at g;simp at g;subst g;rw[this];simp[ah,q]
 .intro e
  subst e;exact⟨(hy.none).1,r rfl⟩
 .intro p w' h1 h2
  exact h p w' (by rw[aT];exact h1) h2
def Tryz.infoFilm3:(prog.info? 60).map (fun i=>(i.zero,i.size,i.bytes))=some (some (.agg #[oZ,oZ,oZ]),3,24):=by kernel_rfl
def Tryz.infoChange3:(prog.info? 64).map (fun i=>(i.zero,i.size,i.bytes))=some (some (.agg #[oZ,oZ,oZ]),3,24):=by kernel_rfl
def Tryz.infoField2:(prog.info? 77).map (fun i=>(i.zero,i.size,i.bytes))=some (some (.agg #[oZ,oZ]),2,16):=by kernel_rfl
def Tryz.infoWave2:(prog.info? 79).map (fun i=>(i.zero,i.size,i.bytes))=some (some (.agg #[oZ,oZ]),2,16):=by kernel_rfl
def Tryz.infoSurf3:(prog.info? 58).map (fun i=>(i.zero,i.size,i.bytes))=some (some (.agg zS),22,200):=by kernel_rfl
def Tryz.infoConfig3:(prog.info? 67).map (fun i=>(i.zero,i.size,i.bytes))=some (some (.agg #[ik,oN]),2,40):=by kernel_rfl
def YM(zs:List Int)(a:Option Addr)(n c:Nat)(w:World)(h:IR w w 3 a n c zs)(r:n<=1000000)(m:a=none->c=0):
 Calls prog 193 #[Z a n c] w (S4 w 3 zs n):=by
 have H:=O h;clear h
 cases a with
 |none=>
  obtain rfl:=m rfl
  have o:=fun w=>Lib.run_eql_slice_nil (P:=prog) w 56 60 none n 0 0 0 underlying56
  go_enter func193,ntmps193;go_wp2;go_ret;obtain⟨rfl,rfl⟩:=(H.irp (S:=fun _=>True) (fun _ _=>trivial)).none;exact⟨none,0,rfl,IRp.nil _ _ _ _ _,fun _=>rfl,TH _ _⟩
 |some l=>
  clear m
  have o:=fun w=>Lib.run_eql_slice_nil (P:=prog) w 56 60 (some l) n c 0 0 underlying56
  go_enter func193,ntmps193
  go_wp2_with(refine je underlying56 Tryz.infoFilm3 rfl (by omega) (by omega) rfl (.tmp 5) (.tmp 6) rfl w (.slice (J (w.heap.size)) 0 0) 0 [] rfl (World.ownsRow_made w #[] 0 (ag _) (by simp) rfl) (fun b=>b<w.heap.size) (some l) n c zs rfl (IR.irp (H.below ((TH _ _).alloc (ag _) _) (ag _)) (fun _ h=>h)) (fun e=>by cases e) (by omega) (by simp) ?_;intro s q g d;have f:Below w w q:=((TH _ _).alloc (ag _) _).grown d (by simp) (by intro k p;simp[Value.ownBlock]at p;omega);have j:=O g;have i:=O f;clear g d f)
  go_wp2;go_ret;obtain⟨a',c',rfl,h1,h2⟩:=lc (zs:=zs) (by simpa using j.out);exact⟨a',c',rfl,by simpa using h2,h1,i⟩
structure gM where
 s:gW
 zs:List Int
def gX(s:gW)(a:Option Addr)(n c:Nat):List Value:=[.int .i64 s.kind,.int .i64 s.r9,.int .i64 s.i4,.int .i64 s.i5,.int .i64 s.cm,.int .i64 s.a0,.int .i64 s.a1,.int .i64 s.a2,.int .i64 s.a3,.int .i64 s.p0,.int .i64 s.p1,.int .i64 s.order,.int .i64 s.tg,.string s.gA,.int .i64 s.i6,.int .i64 s.i7,.int .i64 s.dx,.int .i64 s.dy,.int .i64 s.ax,.int .i64 s.ay,.int .i64 s.az,.slice a n c]
def jE:pB gM:=fun S w x cs=>∃a n c,cs=gX x.s a n c/\IRp S w 3 a n c x.zs/\n<=1000000/\(a=none->c=0)/\x.s.gA.size<=9223372036854775807
def iD:kR 22 jE where
 len:=by rintro S w x cs ⟨a,n,c,rfl,_⟩;rfl
 kept:=by rintro S T w w' x cs ⟨a,n,c,e,h,r⟩ d f;exact⟨a,n,c,e,h.kept d f,r⟩
 one:=by rintro S w x cs ⟨a,n,c,rfl,_⟩ v b;unfold gX at b;simp only[aS,bi,cR]at b;obtain rfl|rfl|rfl|rfl|rfl|rfl|rfl|rfl|rfl|rfl|rfl|rfl|rfl|rfl|rfl|rfl|rfl|rfl|rfl|rfl|rfl|rfl:=b<;>rfl
def A1(w:World)(cs:Array Value)(T:TypeId)(i:Nat)(v:Value):(w.alloc (.cells cs T)).setCell ⟨w.heap.size,i,none⟩ v=w.alloc (.cells (cs.setIfInBounds i v) T):=by
 have e:(w.heap.push (Obj.cells cs T)).modify w (fun o=>match o with| .cells cs t fr=>.cells (cs.setIfInBounds i v) t fr|o=>o)=w.heap.push (Obj.cells (cs.setIfInBounds i v) T):=by
  apply Array.ext
  .simp
  .intro j h1 h2
   rw[Array.getElem_modify,Array.getElem_push,Array.getElem_push];by_cases a:j<w.heap.size
   .rw[aj (by omega),fo a,fo a]
   .have:w.heap.size=j:=by simp at h2;omega
    rw[aq this,eJ a,eJ a]
 show({w.alloc (.cells cs T)with heap:=_}:World)={w with heap:=_}
 rw[<- e];rfl
def tI:∀(d:List Value)(w:World)(b c a:List Value)(T:TypeId),c.length=d.length->(w.alloc (.cells (b++c++a).toArray T)).setCells w b.length d=w.alloc (.cells (b++d++a).toArray T)
 |[],w,b,c,a,T,h=>by
  obtain rfl:c=[]:=aX.1 h;rfl
 |v::d,w,b,o::c,a,T,h=>by
  rw[World.setCells,A1]
  have e:((b++o::c++a).toArray.setIfInBounds b.length v)=((b++[v])++c++a).toArray:=by
   rw[bK,aC,fO,aj (by omega),eC];simp
  rw[e];have:=tI d w (b++[v]) c a T (by simpa using h);rw[al]at this;simpa using this
def J8(w:World)(cs:List Value)(b:cs.length=22)(s:gW)(a:Option Addr)(n c:Nat):vS (w.alloc (.cells cs.toArray 58)) w s a n c=w.alloc (.cells (⟨s,a,n,c⟩:jt) 58):=by
 have:=tI (gX s a n c) w [] cs [] 58 (by rw[b];rfl);simp only[bD,bG,cI]at this;exact this
def lC{ops:Array Oper}{b:List Oper}{e:Oper}{d:Act}{W:World}{Q:Exit->Act->World->Prop}(s:gW)(a:Option Addr)(n c:Nat)(w:World)(g:W=w.alloc (.cells zS 58))(f:e.guard=none)(x y:Operand)(i:e.op=.store 58 x y)
 (j:d.eval x=.pointer (J (w.heap.size)))(k:d.eval y=.agg (⟨s,a,n,c⟩:jt))(h:wpList prog ops Q b (d.put e.dst undef) (w.alloc (.cells (⟨s,a,n,c⟩:jt) 58))):wpList prog ops Q (e::b) d W:=by
 subst g;refine hE s a n c (TL w _) rfl f x y i j k ?_;rw[J8 w [oZ,oZ,oZ,oZ,oZ,oZ,oZ,oZ,oZ,oZ,oZ,oZ,oZ,ik,oZ,oZ,oZ,oZ,oZ,oZ,oZ,oN] rfl];exact h
def lw{ops:Array Oper}{d:List Oper}{e:Oper}{f:Act}{w:World}{Q:Exit->Act->World->Prop}{b o:Nat}{s:gW}{a:Option Addr}{n c:Nat}(h:w.rangeAt b o (gX s a n c))(g:e.guard=none)(x:Operand)(j:e.op=.load 58 x)
 (k:f.eval x=.pointer (some ⟨b,o,none⟩))(i:wpList prog ops Q d (f.put e.dst (.agg (⟨s,a,n,c⟩:jt))) w):wpList prog ops Q (e::d) f w:=
 wpList_load_mid g 58 x j b o k (gX s a n c) _ h underlying58 rfl Tryz.infoSurf i
def pV{P:Program}{ops:Array Oper}{Q:Exit->Act->World->Prop}{a:Act}{w:World}{b:List Oper}{o:Oper}(hw:Region.wanted o (yielded ops a.tmps)=true)
 (h:∀K:Act->World->Prop,(∀a w,wpList P ops Q b a w->K a w)->o.wp P a w K Q):wpList P ops Q (o::b) a w:=
 wpList_step fun K c=>by rw[aq hw];exact h K c
def zj{ops:Array Oper}{b:List Oper}{e:Oper}{d:Act}{w:World}{Q:Exit->Act->World->Prop}{g:Nat}{s:gW}{a:Option Addr}{n c:Nat}(h:Y w g s a n c)(f:Region.wanted e (yielded ops d.tmps)=true)(x:Operand)(k:e.op=.load 58 x)
 (l:d.eval x=.pointer (J g))(j:wpList prog ops Q b (d.put e.dst (.agg (⟨s,a,n,c⟩:jt))) w):wpList prog ops Q (e::b) d w:=
 pV f fun K i=>wp_load_mid 58 x k g 0 l [s.kind,s.r9,s.i4,s.i5,s.cm,s.a0,s.a1,s.a2,s.a3,s.p0,s.p1,s.order,s.tg,s.gA,s.i6,s.i7,s.dx,s.dy,s.ax,s.ay,s.az,Z a n c] _ h.range underlying58 rfl Tryz.infoSurf (i _ _ j)
def pW{ops:Array Oper}{d:List Oper}{f:Oper}{e:Act}{w:World}{Q:Exit->Act->World->Prop}{b o:Nat}{s:gW}{a:Option Addr}{n c:Nat}(h:w.rangeAt b o (gX s a n c))(g:Region.wanted f (yielded ops e.tmps)=true)(x:Operand)(k:f.op=.load 58 x)
 (l:e.eval x=.pointer (some ⟨b,o,none⟩))(j:wpList prog ops Q d (e.put f.dst (.agg (⟨s,a,n,c⟩:jt))) w):wpList prog ops Q (f::d) e w:=
 pV g fun K i=>wp_load_mid 58 x k b o l (gX s a n c) _ h underlying58 rfl Tryz.infoSurf (i _ _ j)
def Y.p8{w:World}{g:Nat}{s:gW}{a:Option Addr}{n c:Nat}(h:Y w g s a n c)(a':Option Addr)(n' c':Nat):Y (w.setCell ⟨g,21,none⟩ (.slice a' n' c')) g s a' n' c':=by
 have:=gG h 21 (.slice a' n' c');simp only[bK,aZ,aW]at this;exact this
def Ph(w:World)(s:gW)(zs:List Int)(n:Nat)(e:Ending)(w':World):Prop:=
 ∃a c,e=.returned (.agg (⟨s,a,n,c⟩:jt))/\IRp (fun b=>w.heap.size<=b/\b<w'.heap.size) w' 3 a n c zs/\(a=none->c=0)/\Below w w w'
def ML(s:gW)(zs:List Int)(a:Option Addr)(n c:Nat)(w:World)(u:IR w w 3 a n c zs)(P:n<=1000000)(j:a=none->c=0):
 Calls prog 154 #[.agg (⟨s,a,n,c⟩:jt)] w (Ph w s zs n):=by
 have g:=O (Y.new w s a n c);have h2:=TL (w.alloc (.cells (⟨s,a,n,c⟩:jt) 58)) (.cells zS 58);have h:=O (gY (o:=.cells zS 58) (gY (o:=.cells (⟨s,a,n,c⟩:jt) 58) (TH w w)));rw[Wf]at h2;have i:=O h2;have N:=O u;have L:=O j;clear h2 u j;go_enter func154,ntmps154;go_upto_region 1 with fail;refine gI (fun r=>Y r w s a n c/\r.heap[w.heap.size+1]? =some (.cells zS 58 (0,0))/\Below w w r) ⟨Y.go (B:=w.heap.size+1) g ((TH _ _).alloc (by simp) _) (by omega),i,h⟩ ?_;clear g i h;rintro w1 ⟨h1,h2,hb⟩;have k:=h1.lt;have l:=TK h2;obtain⟨k0,k1,Q,R,S,T,W,X,k8,k9,v,x,y,z,A,C,D,E,F,H,K,m⟩:=h1.cells;have g:=O h1;have i:=O h2;have h:=O hb;clear h1 h2 hb k0 k1 Q R S T W X k8 k9 v x y z A C D E F H K
 go_wp2_with(first
  |((with_reducible refine(YM zs a n c _ (N.out.go h.out) P L.out).mono ?_);rintro e q ⟨a',c',rfl,hi,j,f⟩;clear m;have fz:=Y.free (Y.go g f k) 21;have m:=(Y.cells (Y.go g f k)).2.2.2.2.2.2.2.2.2.2.2.2.2.2.2.2.2.2.2.2.2;have M:=O hi;have t:=O j;have d:=O f;clear hi j f)
  |(refine gO (Y.p8 (Y.go g d k) a' n c') rfl (.tmp 1) rfl rfl ?_)
  |(refine hE s a' n c' (gF ((d.block _ l).trans i) ⟨w.heap.size,21,none⟩ (by simp) _) rfl rfl (.tmp 2) (.tmp 7) rfl rfl rfl ?_))
 refine ar (lu (s:=s) (a:=a') (n:=n) (c:=c') rfl rfl (Y.stored (gF ((d.block _ l).trans i) ⟨w.heap.size,21,none⟩ (by simp) _) rfl s a' n c')) rfl ?_;refine⟨a',c',rfl,M.kept ((gK w [_] 21 q).mono ?_|>.trans ((gK (w+1) (gX s a' n c') 0 _).mono ?_)) ?_,t,?_⟩
 .intro b hb;have:=hb.1;omega
 .intro b hb;have:=hb.1;omega
 .intro b hb
  refine⟨by have:=hb.1;have:=h.size;omega,?_⟩;have:=im (w+1) (gX s a' n c') 0 (q.setCell ⟨w.heap.size,21,none⟩ (.slice a' n c'))
  show b<((q.setCell ⟨w.heap.size,21,none⟩ (.slice a' n c')).setCells (w+1) 0 (gX s a' n c')).heap.size
  rw[this];simpa using hb.2
 .exact Below.put22 ((I h d).setCell (p:=⟨w.heap.size,21,none⟩) (ag _) _) (by omega) _ _ _ _
def yB{ops:Array Oper}{c:List Oper}{o:Oper}{a:Act}{Q:Exit->Act->World->Prop}{w:World}{α:Type}(R:pB α){k:Nat}{T d:TypeId}{z:Value}{b:Nat}(e:prog.underlying d=some (.slice T))(q:(prog.info? T).map (fun i=>(i.zero,i.size,i.bytes))=some (some z,k,b))(f:b<=10000)
 (g:o.guard=none)(x y:Operand)(t:o.op=Op.makeSlice d x y)(n:Nat)(u:a.eval x=.int .i64 0)(v:a.eval y=.int .i64 (n:Int))(s:n<=1000000)
 (h:∀w',jD R k T w w' (.slice (J (w.heap.size)) 0 n) []->Below w w w'->wpList prog ops Q c (a.put o.dst (.slice (J (w.heap.size)) 0 n)) w'):wpList prog ops Q (o::c) a w:=by
 obtain⟨i,j,l,m,p⟩:=sd q;refine wpList_make_own w g x y d t w T i z k e j l m .i64 .i64 (n:Int) n u v rfl ?_ (by unfold maxLen;omega) (ag _) ?_
 .rw[p];exact af (cB f s) (by omega)
 .intro w' h1 h2
  exact h w' ⟨[],rfl,by simp,h1,fun i x cs h=>by simp at h⟩ ((TH _ _).grown h2 (ag _) (fun k r=>by cases r))
def Pi{α:Type}(R:pB α)(k:Nat)(T:TypeId)(w:World)(l:List α)(e:Ending)(w':World):Prop:=
 ∃g c,e=.returned (.slice (J g) l.length c)/\jD R k T w w' (.slice (J g) l.length c) l/\Below w w w'
def mn{α:Type}{l:List α}{k:Nat}{x:α}(h:l[k]? =some x):l.take (k+1)=l.take k++[x]:=by
 rw[eK,h];rfl
def MM(l:List gM)(a:Option Addr)(n c:Nat)(w:World)(h:RR jE 22 (fun b=>b<w.heap.size) w a n c l)(hn:n<=1000000):
 Calls prog 153 #[Z a n c,.func (.func 154) #[] #[]] w (Pi jE 22 58 w l):=by
 have H:=O h;clear h;have d:=H.1;go_enter func153,ntmps153
 go_wp2_with(at_make;refine yB jE underlying34 Tryz.infoSurf3 (by omega) rfl _ _ rfl n rfl rfl hn ?_;intro w1 o hb;have W:=O o;have S:=O hb;clear o hb)
 go_loopw [5,13] (fun v B wr=>∃k:Nat,k<=n/\B=.int .i64 (k:Int)/\jD jE 22 58 w wr v (l.take k)/\(∃g c,v=.slice (J g) k c)/\Below w w wr) (fun _ B _=>n-(intOf B).toNat)
 case atStart=>exact⟨0,by omega,rfl,W,⟨_,_,rfl⟩,S⟩
 case round=>
  obtain⟨k,hk,rfl,o,⟨z,c1,rfl⟩,hb⟩:=hrel;have m:=O o;have f:=O hb;clear o hb;by_cases L:k<n
  .obtain⟨b,off,x,cs,rfl,hlt,N,⟨a2,i,c2,rfl,Q,u,r,t⟩,M⟩:=(H.go iD f).at L
   have Hx:=O N;have Hz:=O (Q.ir (fun _ h=>h));have E:=O r;have X:=O M;have F:=O t;clear N Q r M t
   have T:(l.take k).length=k:=by rw[bn,d];omega
   go_wp2_with(first
    |(refine lw X rfl (.tmp 15) rfl rfl ?_)
    |(refine lC x.s a2 i c2 _ rfl rfl (.tmp 7) (.tmp 16) rfl rfl rfl ?_)
    |(refine gO (Y.new _ x.s a2 i c2) rfl (.tmp 7) rfl rfl ?_)
    |((with_reducible refine(ML x.s x.zs _ i c2 _ (Hz.out.go ((TH _ _).alloc (ag _) _)) u E.out).mono ?_);rintro e C ⟨a',c',rfl,hi,A,p⟩;have Hi:=O hi;have a0:=O A;have j:=O (I (gY (TH _ _)) p);have P:jE (fun b=>w.heap.size<=b/\b<C.heap.size/\(Value.slice (J z) k c1).ownBlock≠some b) C x (gX x.s a' i c'):=⟨a',i,c',rfl,hi.kept (gN.refl _ _) (fun b hb=>⟨by have:=hb.1;have:=f.size;simp at*;omega,hb.2,m.fresh (by have:=hb.1;simp at this;omega)⟩),u,A,F⟩;have Hy:=O P;clear hi A p P)
    |(refine qU iD underlying34 Tryz.infoSurf3 rfl (by omega) (by omega) rfl (.tmp 17) (.tmp 21) rfl w C (.slice (J z) k c1) (l.take k) x (gX x.s a' i c') rfl (m.go iD j) rfl rfl Hy (by omega) (af f.size j.size) ?_;intro g3 R w3 y q;have K:=O y;have D:=O q;clear y q))
   go_roundw
   case rel=>exact⟨k+1,by omega,by go_num,by rw[mn Hx];have:=K.out;rwa[T]at this,⟨_,_,rfl⟩,D _ _ (ag _) (I f j)⟩
   case measure=>simp[intOf];omega
  .obtain rfl:k=n:=by omega
   go_wp2;go_ret;have:=m.out;rw[<- d,bf]at this;exact⟨z,c1,by rw[d];rfl,by rw[d];rw[d]at this;exact this,f⟩
structure jd where
 nm:ByteArray
 zs:List Int
def oB:pB jd:=fun S w x cs=>∃a n c,cs=[.string x.nm,.slice a n c]/\IRp S w 3 a n c x.zs/\n<=1000000/\(a=none->c=0)/\x.nm.size<=9223372036854775807
def ky:kR 2 oB where
 len:=by rintro S w x cs ⟨a,n,c,rfl,_⟩;rfl
 kept:=by rintro S T w w' x cs ⟨a,n,c,e,h,r⟩ d f;exact⟨a,n,c,e,h.kept d f,r⟩
 one:=by rintro S w x cs ⟨a,n,c,rfl,_⟩ v b;simp only[aS,bi,cR]at b;obtain rfl|rfl:=b<;>rfl

abbrev bs(l:List UInt8):ByteArray:=⟨l.toArray⟩
def Db(l:List UInt8):(bs l).data.toList=l:=rfl
def oQ(a b:List UInt8):bs a++bs b=bs (a++b):=by
 apply fj;simp
def Tryz.infoByte:(prog.info? 5).map (fun i=>(i.zero,i.size,i.bytes))=some (some (.int .u8 0),1,1):=by kernel_rfl
def YL(l:List UInt8)(b:UInt8):Lib.byteCells (l++[b])=Lib.byteCells l++[.int .u8 b.toNat]:=by simp[Lib.byteCells]
def re{ops:Array Oper}{c:List Oper}{o:Oper}{a:Act}{Q:Exit->Act->World->Prop}{W:World}(i:o.guard=none)(s x:Operand)(t:TypeId)
 (q:o.op=.call {callee:=.builtin .append,args:=#[s,x],argTypes:=#[t,t]})(ht:prog.underlying t=some (.slice 5))
 (base:Nat)(w:World)(va:Option Addr)(n vc:Nat)(l:List UInt8)(y:Int)(b:UInt8)(hs:a.eval s=.slice va n vc)(hown:w.ownsRow base 5 1 (.slice va n vc) n (Lib.byteCells l))
 (hW:W=w.alloc (.cells #[.int .u8 y] 5))(hy:y=(b.toNat:Int))(hx:a.eval x=.slice (J (w.heap.size)) 1 1)(hn:n<=10000000)(hbase:base<=w.heap.size)
 (h:∀d f w',w'.ownsRow base 5 1 (.slice d (n+1) f) (n+1) (Lib.byteCells (l++[b]))->(∀B w0,B<=base->Below B w0 w->Below B w0 w')->(∀k,k<base->w'.heap[k]? =w.heap[k]?)->w.heap.size<w'.heap.size->wpList prog ops Q c (a.put o.dst (.slice d (n+1) f)) w'):
 wpList prog ops Q (o::c) a W:=by
 subst hW hy;refine mS i s x t q base 5 (.int .u8 0) 1 1 ht Tryz.infoByte (by simp[Value.cells]) (by omega) _ n _ hs (kD hown ((TH _ _).alloc (ag _) _)) _ 1 1 [.int .u8 b.toNat] hx rfl ?_ (by simp[Value.oneCell']) (fun e=>by cases e) (by omega) (by omega) (by simp;omega) ?_
 .intro _
  refine⟨w.heap.size,0,rfl,fun j u g=>?_⟩
  match j,g with
  |0,g=>cases g;exact World.cell?_alloc_at _ _ _ _ rfl
 .intro r w' h2 h3
  rw[<- YL]at h2;obtain⟨d,f,rfl⟩:=kx h2;exact h d f w' h2 (fun B w0 m hb=>jF hb hown h3 m hbase) (fun k p=>jI hown h3 p hbase) (by have:=h3.size;simp at this;omega)
def Zs(n:Nat):madeCells (Value.int .u8 0).cells n=(Lib.byteCells (List.replicate n 0)).toArray:=by
 apply Array.ext
 .simp[madeCells,Lib.byteCells]
 .intro i h1 h2
  simp[madeCells,Value.cells,Nat.mod_one,Lib.byteCells]
def Wb{w:World}{ops:Array Oper}{b:List Oper}{o:Oper}{a:Act}{Q:Exit->Act->World->Prop}
 (k:o.guard=none)(l c:Operand)(t:TypeId)(e:o.op=Op.makeSlice t l c)(q:prog.underlying t=some (.slice 5))
 (L:Int)(n:Nat)(m:a.eval l=.int .i64 L)(j:a.eval c=.int .i64 L)(h:L=(n:Int))(s:n<=10000000000000)
 (g:∀w',mO w' w (Lib.byteCells (List.replicate n 0)) 5->Below w w w'->w.heap.size<w'.heap.size->wpList prog ops Q b (a.put o.dst (.slice (J (w.heap.size)) n n)) w'):
 wpList prog ops Q (o::b) a w:=by
 refine eT k fun K d=>?_
 obtain⟨i,hi,r,p,hb⟩:=sd Tryz.infoByte;subst h;have f:=run_make (P:=prog) w t 5 i _ q hi r .i64 .i64 (n:Int) (n:Int) (by omega) (by omega) (by rw[hb];omega) (by omega);rw[p,aI,dn,Zs]at f;unfold Oper.wp;simp[execOp,e,m,j,f,Result.andThen];refine d _ _ (g _ ?_ ((TH _ _).alloc (ag _) _) (by simp));refine⟨[],?_⟩;rw[TL];simp
def tx(l:List UInt8)(i:Nat):List UInt8:=l.take i++List.replicate (l.length-i) 0
def Y2(l:List UInt8):tx l 0=List.replicate l.length 0:=by simp[tx]
def Zd(l:List UInt8):tx l l.length=l:=by simp[tx]
def T5(l:List UInt8){i:Nat}(h:i<=l.length):(tx l i).length=l.length:=by simp[tx];omega
def Ze(l:List UInt8){i:Nat}(h:i<l.length):(tx l i).set i (l.getD i 0)=tx l (i+1):=by
 unfold tx
 have e:l.length-i=(l.length-(i+1))+1:=by omega
 have a:(l.take i).length=i:=by rw[bn];omega
 rw[fO,aj (by omega),a,eC,e,ew,aZ,dV h,ah,ae h];simp only[Option.getD_some,aC,List.singleton_append]
def YQ(l:List UInt8)(i:Nat)(b:UInt8):(Lib.byteCells l).set i (.int .u8 b.toNat)=Lib.byteCells (l.set i b):=by
 unfold Lib.byteCells;rw[List.map_set]
def YZ{w:World}{base:Nat}{e:TypeId}{a:Option Addr}{n m c:Nat}{xs:List Value}(h:w.ownsRow base e 1 (.slice a n c) n xs)(o:m<=n)(h0:0<n):w.ownsRow base e 1 (.slice a m c) m (xs.take m):=by
 obtain⟨l,r⟩:=h;refine⟨by rw[bn,l];omega,VS ?_⟩
 obtain ⟨e,h1⟩|⟨g,cap,b,e,d,f,p,i,j,k⟩:=r
 .omega
 .cases e
  refine⟨g,c,b,rfl,d,f,by omega,i,j,?_⟩;rw[<- k,List.take_take];congr 1;omega
def T3{w:World}{base:Nat}{e:TypeId}{a:Option Addr}{n c:Nat}{l:List UInt8}(h:w.ownsRow base e 1 (.slice a n c) n (Lib.byteCells l)){j:Nat}(d:j<l.length):
 ∃g,a=some ⟨g,0,none⟩/\base<=g/\w.cell? ⟨g,j,none⟩=some (.int .u8 (l.getD j 0).toNat)/\n=l.length:=by
 have k:=h.1;rw[Lib.byteCells_length]at k
 rcases(mz h).2 with⟨e,h0⟩|⟨g,cap,e,i,f,b⟩
 .omega
 .cases e
  refine⟨g,rfl,i,?_,by omega⟩;rw[b.cell (j:=j) (by rw[Lib.byteCells_length];exact d)];simp[Lib.byteCells,ah,ae d]
def jN(S:Nat->Prop)(w:World)(a:Option Addr)(n c:Nat)(zs:List Int):Prop:=
 w.ownsRow 0 60 3 (.slice a n c) n (zs.map (Value.int .i64))/\ ∀g,(Value.slice a n c).ownBlock=some g->S g
def xL{w:World}{b b' n k:Nat}{T:TypeId}{v:Value}{xs:List Value}(h:w.ownsRow b T k v n xs)(hb:b'<=b):w.ownsRow b' T k v n xs:=
 ⟨h.1,h.2.imp id fun⟨g,cap,a,e,c,d⟩=>⟨g,cap,a,e,af hb c,d⟩⟩
def jN.own{S:Nat->Prop}{w:World}{b n:Nat}{a:Option Addr}{c:Nat}{zs:List Int}(h:w.ownsRow b 60 3 (.slice a n c) n (zs.map (Value.int .i64)))(e:∀g,b<=g->g<w.heap.size->S g):jN S w a n c zs:=
 ⟨xL h (aA _),fun g d=>e g (h.lt g d).1 (h.lt g d).2⟩
def jN.nil(S:Nat->Prop)(w:World):jN S w none 0 0 []:=⟨World.ownsRow_nil _ _ _ _,fun g h=>by cases h⟩
def jN.kept{S T:Nat->Prop}{w w':World}{a:Option Addr}{n c:Nat}{zs:List Int}(h:jN S w a n c zs)(i:gN S w w')(j:∀b,S b->T b):jN T w' a n c zs:=by
 obtain⟨⟨h1,h2⟩,h3⟩:=h;refine⟨⟨h1,h2.imp id ?_⟩,fun g f=>j g (h3 g f)⟩;rintro⟨g,cap,d,e,k,l,m⟩;exact⟨g,cap,d,e,k,(i g (h3 g (by rw[e];rfl))).trans l,m⟩
def jN.none{S:Nat->Prop}{w:World}{a:Option Addr}{n c:Nat}{zs:List Int}(h:jN S w a n c zs):a=none->c=0:=by
 intro e
 obtain ⟨b,_⟩|⟨g,cap,d,b,_⟩:=h.1.2
 .cases b;rfl
 .rw[e]at b;cases b
def jN.irp{S:Nat->Prop}{w:World}{a:Option Addr}{n c:Nat}{zs:List Int}(h:jN S w a n c zs):IRp S w 3 a n c zs:=by
 obtain⟨a',c',e,h1,h2⟩:=lc h.1;cases e;refine⟨h2.1,h2.2.1,fun f=>?_⟩;obtain⟨b,off,e,_,d⟩:=h2.2.2 f;exact⟨b,off,e,h.2 b (by rw[e];rfl),d⟩
def jN.len{S:Nat->Prop}{w:World}{a:Option Addr}{n c:Nat}{zs:List Int}(h:jN S w a n c zs):zs.length=n*3:=h.irp.1
structure jT where
 y:gM
 lo:Nat
 hi:Nat
def rL:pB jT:=fun S w x cs=>∃a n c,cs=gX x.y.s a n c/\jN (fun b=>S b/\x.lo<=b/\b<x.hi) w a n c x.y.zs/\n<=1000000/\x.y.s.gA.size<=9223372036854775807
def rL.r{S:Nat->Prop}{w:World}{x:jT}{cs:List Value}(h:rL S w x cs):jE S w x.y cs:=by
 obtain⟨a,n,c,e,h1,h2,h3⟩:=h;exact⟨a,n,c,e,h1.irp.kept (gN.refl _ _) (fun b h=>h.1),h2,h1.none,h3⟩
def jX:kR 22 rL where
 len:=by rintro S w x cs ⟨a,n,c,rfl,_⟩;rfl
 kept:=by rintro S T w w' x cs ⟨a,n,c,e,h,r⟩ d f;exact⟨a,n,c,e,h.kept (d.mono (fun b h=>h.1)) (fun b h=>⟨f b h.1,h.2⟩),r⟩
 one:=by intro S w x cs h;exact iD.one h.r
def qt(l:List jT):List gM:=l.map jT.y
def CW{l:List jT}{i:Nat}{x:gM}(h:(qt l)[i]? =some x):∃q,l[i]? =some q/\q.y=x:=by
 unfold qt at h;rw[aR]at h
 cases hq:l[i]? with
 |none=>rw[hq]at h;cases h
 |some q=>rw[hq]at h;exact⟨q,rfl,by simpa using h⟩
def Ek(l m:List jT):qt (l++m)=qt l++qt m:=aT
def mD(l:List jT):(qt l).length=l.length:=aU _
def El(l:List jT)(i:Nat)(x:jT):qt (l.set i x)=(qt l).set i x.y:=by unfold qt;rw[List.map_set]
def jD.qr{T:TypeId}{base:Nat}{w:World}{v:Value}{l:List jT}(h:jD rL 22 T base w v l):jD jE 22 T base w v (qt l):=by
 obtain⟨css,h1,h2,h3,a⟩:=h;refine⟨css,by rw[mD];exact h1,h2,by rw[mD];exact h3,fun i x cs d b=>?_⟩;obtain⟨q,c,rfl⟩:=CW d;exact(a i q cs c b).r
def qu(l:List jT):Prop:=∀(i j:Nat)(x y:jT),l[i]? =some x->l[j]? =some y->i≠j->x.hi<=y.lo\/y.hi<=x.lo
def qu.nil:qu []:=fun i j x y h=>by simp at h
def qu.snoc{l:List jT}(h:qu l){x:jT}(d:∀y∈l,y.hi<=x.lo):qu (l++[x]):=by
 intro i j p q b a c;rw[List.getElem?_append]at b a;split at b
 .split at a
  .exact h i j p q b a c
  .rename_i h1 h2
   have e:q=x:=by
    have:j-l.length=0:=by
     refine eW fun h0=>?_
     rw[bz (by simp;omega)]at a;cases a
    rw[this]at a;simpa using a.symm
   subst e;exact VR (d p (aL b))
 .rename_i h1
  have ep:i-l.length=0:=by
   refine eW fun h0=>?_
   rw[bz (by simp;omega)]at b;cases b
  have e:p=x:=by rw[ep]at b;simpa using b.symm
  subst e;split at a
  .exact VS (d q (aL a))
  .have eq:j-l.length=0:=by
    refine eW fun h0=>?_
    rw[bz (by simp;omega)]at a;cases a
   omega
def qu.set{l:List jT}(h:qu l){k:Nat}{x:jT}(e:∀j y,l[j]? =some y->j≠k->y.hi<=x.lo\/x.hi<=y.lo):qu (l.set k x):=by
 intro i j p q b a d;rw[cF]at b a;by_cases hi:k=i
 .rw[aq hi]at b
  rw[aj (by omega)]at a;split at b
  .cases b
   exact(e j q a (by omega)).symm
  .cases b
 .rw[aj hi]at b
  by_cases c:k=j
  .rw[aq c]at a
   split at a
   .cases a
    exact e i p b (by omega)
   .cases a
  .rw[aj c]at a
   exact h i j p q b a d
def Em(B:Nat)(l:List jT):Prop:=∀x∈l,x.lo<=x.hi/\x.hi<=B
def Em.mono{B a:Nat}{l:List jT}(h:Em B l)(hb:B<=a):Em a l:=fun x b=>⟨(h x b).1,af (h x b).2 hb⟩
def Em.snoc{B:Nat}{l:List jT}(h:Em B l){x:jT}(h1:x.lo<=x.hi)(h2:x.hi<=B):Em B (l++[x]):=by
 intro y a
 obtain a|a:=bj.1 a
 .exact h y a
 .obtain rfl:=aK.1 a;exact⟨h1,h2⟩
def Sh{α:Type}(R:pB α)(o:Option Nat):pB α:=fun S w x cs=>R (fun b=>S b/\o≠some b) w x cs
def BT{α:Type}{k:Nat}{R:pB α}(ok:kR k R)(o:Option Nat):kR k (Sh R o) where
 len:=fun h=>ok.len h
 kept:=fun h a c=>ok.kept h (a.mono (fun b h=>h.1)) (fun b h=>⟨c b h.1,h.2⟩)
 one:=fun h=>ok.one h
def jD.rro{α:Type}{R:pB α}{k:Nat}(ok:kR k R){T:TypeId}{base:Nat}{w:World}{a:Option Addr}{n c:Nat}{l:List α}(h:jD R k T base w (.slice a n c) l):RR (Sh R (Value.slice a n c).ownBlock) k (fun b=>base<=b/\b<w.heap.size) w a n c l:=by
 have o:=h.rr ok;refine⟨o.1,o.2.1,fun t=>?_⟩;obtain⟨b,off,e,hb,m⟩:=o.2.2 t;obtain⟨css,h1,h2,h3,r⟩:=id h
 obtain ⟨f,h0⟩|⟨g,cap,y,f,u,z,A,B,C,D⟩:=h3.2
 .cases f;cases e
 .cases f;cases e
  refine⟨_,0,rfl,⟨u,hb⟩,fun i x q=>?_⟩;have hi:i<l.length:=(TG.1 q).1;have d:css[i]? =some css[i]:=ae (by omega);refine⟨css[i],ok.kept (r i x _ q d) (gN.refl _ _) (fun b h=>⟨⟨h.1,h.2.1⟩,h.2.2⟩),fun j v p=>?_⟩
  have s:j<k:=by
   have:=(TG.1 p).1;rw[h2 css[i] (cW _)]at this;exact this
  have m:=h3.cells rfl (i*k+j) v (by rw[mC css i _ j h2 d s];exact p);rw[Addr.add_mid,<- cN]at m;exact m
def oJ(base:Nat)(w:World)(v:Value)(l:List gM):Prop:=
 ∃a:List jT,qt a=l/\jD rL 22 58 base w v a/\qu a/\ ∀q∈a,base<=q.lo/\q.lo<=q.hi/\q.hi<=w.heap.size
def oJ.r{base:Nat}{w:World}{v:Value}{l:List gM}(h:oJ base w v l):jD jE 22 58 base w v l:=by
 obtain⟨a,rfl,h,_⟩:=h;exact h.qr
def oJ.nil(base:Nat)(w:World):oJ base w (.slice none 0 0) []:=⟨[],rfl,jD.nil _ _ _ _ _,qu.nil,fun q a=>by cases a⟩
def oJ.go{base:Nat}{w w':World}{v:Value}{l:List gM}(h:oJ base w v l)(hb:Below w w w'):oJ base w' v l:=by
 obtain⟨c,h1,h2,h3,a⟩:=h;exact⟨c,h1,h2.go jX hb,h3,fun q b=>⟨(a q b).1,(a q b).2.1,af (a q b).2.2 hb.size⟩⟩
def jD.down{α:Type}{R:pB α}{k:Nat}(ok:kR k R){T:TypeId}{base a:Nat}{w:World}{v:Value}{l:List α}(h:jD R k T base w v l)(hb:a<=base):jD R k T a w v l:=by
 obtain⟨css,h1,h2,h3,c⟩:=h;exact⟨css,h1,h2,xL h3 hb,fun i x cs e d=>ok.kept (c i x cs e d) (gN.refl _ _) (fun b h=>⟨af hb h.1,h.2⟩)⟩
def oJ.down{base a:Nat}{w:World}{v:Value}{l:List gM}(h:oJ base w v l)(hb:a<=base):oJ a w v l:=by
 obtain⟨d,h1,h2,h3,b⟩:=h;exact⟨d,h1,h2.down jX hb,h3,fun q c=>⟨af hb (b q c).1,(b q c).2⟩⟩
def tY(c:UInt8):∀(A:List UInt8),(∀b∈A,b≠c)->index A [c]= -1
 |[],_=>rfl
 |b::A,h=>by
  have g:=tY c A (fun d a=>h d (au _ a));have hb:=h b aG
  have f:([c]:List UInt8).isPrefixOf (b::A)=false:=by
   show((c:UInt8)==b&&_)=false
   rw[cL];exact VR (ak.2 (fun e=>hb e.symm))
  rw[index,f,g];rfl
def xn(c:UInt8):∀(A f:List UInt8),(∀b∈A,b≠c)->index (A++c::f) [c]=A.length
 |[],f,_=>by
  have a:([c]:List UInt8).isPrefixOf (c::f)=true:=by
   show((c:UInt8)==c&&_)=true
   simp
  rw[bD,index,a];rfl
 |b::A,f,h=>by
  have j:=xn c A f (fun d g=>h d (au _ g));have hb:=h b aG
  have a:([c]:List UInt8).isPrefixOf (b::(A++c::f))=false:=by
   show((c:UInt8)==b&&_)=false
   rw[cL];exact VR (ak.2 (fun e=>hb e.symm))
  have i:((A.length:Int)== -1)=false:=by rw[ak];omega
  rw[bF,index,a,j,i,aH];simp
def Il(c:UInt8):∀(l:List UInt8),(∀b∈l,b≠c)\/ ∃A f,(∀b∈A,b≠c)/\l=A++c::f
 |[]=>VR (by simp)
 |b::l=>by
  by_cases hb:b=c
  .exact VS ⟨[],l,by simp,by rw[hb];rfl⟩
  .obtain h|⟨A,f,h,e⟩:=Il c l
   .exact VR (by simp only[aS,fE];exact⟨hb,h⟩)
   .exact VS ⟨b::A,f,by simp only[aS,fE];exact⟨hb,h⟩,by rw[e];rfl⟩
def sM:∀(l w:List UInt8),(∀b∈l,b≠10)->io w l=[w++l]
 |[],w,_=>by simp[io]
 |b::l,w,h=>by
  have hb:(b==10)=false:=ak.2 (h b aG);rw[io,hb,aj (by simp),sM l _ (fun d a=>h d (au _ a))];simp
def vx:∀(A w f:List UInt8),(∀b∈A,b≠10)->io w (A++10::f)=(w++A)::io [] f
 |[],w,f,_=>by simp[io]
 |b::A,w,f,h=>by
  have hb:(b==10)=false:=ak.2 (h b aG);rw[bF,io,hb,aj (by simp),vx A _ f (fun d a=>h d (au _ a))];simp
def Fl(c:UInt8){A f:List UInt8}(h:∀b∈A,b≠c):count (A++c::f) [c]=1+count f [c]:=by
 rw[count_hit (i:=A.length) (by simp) (xn c A f h)];congr 2;rw[show A.length+([c]:List UInt8).length=A.length+1 from rfl,<- eE,List.drop_left];rfl
def xW:∀(n:Nat)(l:List UInt8),l.length<=n->splitK [10] 0 (count l [10]) l=io [] l
 |n,l,hn=>by
  obtain h|⟨A,f,h,rfl⟩:=Il 10 l
  .rw[count_miss (tY 10 l h),sM l _ h];rfl
  .match n,hn with
   |0,hn=>simp at hn
   |n+1,hn=>
    have a:((A.length:Int)== -1)=false:=by rw[ak];omega
    rw[Fl 10 h,fA,splitK,xn 10 A f h,a,aj (by simp),vx A _ f h,aI,bE,List.take_left];rw[show A.length+([10]:List UInt8).length=A.length+1 from rfl,<- eE,List.drop_left];rw[show List.drop 1 (10::f)=f from rfl,xW n f (by simp at hn;omega)];rfl
def Dr(l:List UInt8):(splitB (bs [10]) 0 (countB (bs l) (bs [10])) (bs l))=(io [] l).map bs:=by
 have h:=splitB_data (bs [10]) 0 (countB (bs l) (bs [10])) (bs l);rw[show countB (bs l) (bs [10])=count l [10]from rfl]at h⊢;rw[show(bs [10]).data.toList=[10]from rfl,show(bs l).data.toList=l from rfl,xW l.length l (ag _)]at h;rw[<- h,dD];exact(fY (fun x=>rfl) _).symm
def xX:∀(n:Nat)(l:List UInt8),l.length<=n->(io [] l).length=count l [10]+1
 |n,l,hn=>by
  obtain h|⟨A,f,h,rfl⟩:=Il 10 l
  .rw[count_miss (tY 10 l h),sM l _ h];rfl
  .match n,hn with
   |0,hn=>simp at hn
   |n+1,hn=>rw[Fl 10 h,vx A _ f h,aH,xX n f (by simp at hn;omega)];omega
def Nz(l:List UInt8)(a b:Nat):(bs l).extract a b=bs ((l.drop a).take (b-a)):=by
 apply fj;apply fU;simp[VU,List.take_drop]
def TO(l:List UInt8)(pos:Nat):Option Nat->List UInt8
 |none=>[]
 |some a=>(l.drop a).take (pos-a)
def Im(l:List UInt8)(p j:Nat):(l.drop p).getD j 0=l.getD (p+j) 0:=by simp[List.getD,cp]
def K8{l:List UInt8}{pos:Nat}(h:pos<l.length):l.drop pos=l.getD pos 0::l.drop (pos+1):=by
 rw[dG h,ah,ae h];rfl
def La(l:List UInt8)(a pos k:Nat)(h:a<=pos):(l.drop a).take (pos-a)++(l.drop pos).take k=(l.drop a).take (pos+k-a):=by
 have e:l.drop pos=(l.drop a).drop (pos-a):=by rw[eE];congr 1;omega
 rw[e,show pos+k-a=(pos-a)+k by omega,List.take_add]
def wh(s:Bool)(z:Int)(a:Option Addr)(n c:Nat)(w:World)(h:LG w w s a n c z):
 Calls prog 168 #[.agg #[s,Z a n c]] w (tb w (-z)):=by
 have hb:Below w w ((w.alloc (.cells #[s,Z a n c] 178)).alloc (.cells #[false,oN] 178)):=iH _ _;have H:=O ((h.2.1.below hb (ag _)).mono hb.size);have o:=O (h.1);have q:=h.2.2;have m:=O (h.2.1.len);have f:=O hb;clear hb;clear h;go_enter func168,ntmps168;go_wp2_with fail;refine(nl (!s) (ip z.natAbs) (-z) _ _ _ _ H (iU _) (by omega) (by rw[iY,aI,<- m];exact q) ?_).mono ?_
 .have:=o.out
  rw[iY,this];by_cases h0:z<0
  .simp[h0];omega
  .simp[h0];omega
 rintro e x ⟨s',a',n',c',rfl,d,b,hf⟩;obtain⟨p,j⟩:=iN w (.cells #[s,Z a n c] 178) (.cells #[false,oN] 178);have k:=(b.block (w+1) (by simp)).trans j;obtain⟨k1,r,t,u⟩:=gQ k;have i:=O d;have l:=O hf;have g:=O b;clear d hf b p j k;go_wp2_with fail;refine ar (v:=.agg #[s',Z a' n' c']) ?_ rfl ?_
 .simp[results,results168,go_sem,k1,r]
 .exact pF i (f.trans (g.mono f.size)) l (w+1) (by simp) (by omega) _ _
def Pc(b:UInt8):Bool:=b==32
def iA:List UInt8->List UInt8->List (List UInt8)
 |v,[]=>if v=[]then[]else[v]
 |v,b::l=>if Pc b then(if v=[]then iA [] l else v::iA [] l)else iA (v++[b]) l
def Fm(r:Nat):Bool:=r==32
def Ds(b:UInt8):Pc b=Fm b.toNat:=by
 unfold Pc Fm;rw[bJ];simp only[dz];exact⟨fun h=>by rw[h];rfl,fun h=>UInt8.toNat.inj h⟩
def JF(r:Nat):Fm r=true↔r=32:=by unfold Fm;simp
def Io(r:Nat):Fm r=false↔r≠32:=by unfold Fm;rw[ak]
def Ry(n b0 b1 b2 b3:Nat):Fm (decodeN n b0 b1 b2 b3).1=true->(decodeN n b0 b1 b2 b3).2=1/\b0=32:=by
 rw[JF];unfold decodeN
 repeat' split
 all_goals first
  |(intro h;exact⟨rfl,h⟩)
  |(intro h;simp only at h;omega)
def NA(n b0 b1 b2 b3:Nat):Fm (decodeN n b0 b1 b2 b3).1=false->b0≠32:=by
 rw[Io];unfold decodeN
 repeat' split
 all_goals(intro h;simp only at h;omega)
def Ip{b:UInt8}(h:b.toNat/64=2):Pc b=false:=by
 rw[Ds,Io];omega
def SE{l:List UInt8}{pos:Nat}(h:Fm (Utf8.decode (bs l) pos).1=true):(Utf8.decode (bs l) pos).2=1/\Pc (l.getD pos 0)=true:=by
 rw[decode_N]at h⊢;obtain⟨h1,h2⟩:=Ry _ _ _ _ _ h;refine⟨h1,?_⟩;rw[Ds,JF];exact h2
def PO{l:List UInt8}{pos:Nat}(b:pos<l.length)(h:Fm (Utf8.decode (bs l) pos).1=false):pos+(Utf8.decode (bs l) pos).2<=l.length/\1<=(Utf8.decode (bs l) pos).2/\ ∀j,j<(Utf8.decode (bs l) pos).2->Pc (l.getD (pos+j) 0)=false:=by
 rw[decode_N]at h⊢;rw[show(bs l).data.toList=l from rfl]at h⊢;have h1:=NA _ _ _ _ _ h;have h2:=decodeN_le_n' (l.length-pos) (l.getD pos 0).toNat (l.getD (pos+1) 0).toNat (l.getD (pos+2) 0).toNat (l.getD (pos+3) 0).toNat (by omega);obtain⟨c1,c2,c3,c4⟩:=decodeN_conts (l.length-pos) (l.getD pos 0).toNat (l.getD (pos+1) 0).toNat (l.getD (pos+2) 0).toNat (l.getD (pos+3) 0).toNat;have h5:=decodeN_ge1 (l.length-pos) (l.getD pos 0).toNat (l.getD (pos+1) 0).toNat (l.getD (pos+2) 0).toNat (l.getD (pos+3) 0).toNat;refine⟨by omega,h5,fun j a=>?_⟩
 match j,a with
 |0,_=>rw[bE,Ds,Io];exact h1
 |1,a=>exact Ip (c1 (by omega)).1
 |2,a=>exact Ip (c2 (by omega)).1
 |3,a=>exact Ip (c3 (by omega)).1
 |j+4,a=>omega
def Lc{w l:List UInt8}{b:UInt8}(h:Pc b=true):iA w (b::l)=(if w=[]then[]else[w])++iA [] l:=by
 rw[iA,h,aq rfl];split<;>simp
def xY:∀(k:Nat)(w l:List UInt8),k<=l.length->(∀j,j<k->Pc (l.getD j 0)=false)->iA w l=iA (w++l.take k) (l.drop k)
 |0,w,l,_,_=>by simp
 |k+1,w,[],h,_=>by simp at h
 |k+1,w,b::l,h,hs=>by
  have h0:=hs 0 (by omega);rw[fd]at h0;rw[iA,h0,aj (by simp),xY k (w++[b]) l (by simp at h;omega) (fun j a=>by have:=hs (j+1) (by omega);rwa[eA]at this)];simp
def Dt(l:List UInt8):∀(f pos:Nat)(c:Option Nat)(d:List (Nat×Nat)),l.length<=pos+f->pos<=l.length->(∀a,c=some a->a<pos)->
 (closeSpans (bs l) (spansFromP Fm (bs l) f pos c d)).map (fun x=>(bs l).extract x.1 x.2)=d.map (fun x=>(bs l).extract x.1 x.2)++(iA (TO l pos c) (l.drop pos)).map bs:=by
 have i:∀(pos:Nat)(c:Option Nat)(d:List (Nat×Nat)),pos=l.length->(∀a,c=some a->a<pos)->
  (closeSpans (bs l) (d,c)).map (fun x=>(bs l).extract x.1 x.2)=d.map (fun x=>(bs l).extract x.1 x.2)++(iA (TO l pos c) (l.drop pos)).map bs:=by
  intro pos c d o g;subst o;rw[List.drop_length]
  cases c with
  |none=>simp[closeSpans,TO,iA]
  |some a=>
   have h:=g a rfl
   have m:¬TO l l.length (some a)=[]:=by
    intro e;have:=ai List.length e;simp[TO]at this;omega
   simp only[closeSpans,iA];rw[aj m,aT,aN,bI,Nz];rfl
 intro f
 induction f with
 |zero=>
  intro pos c d r o g;exact i pos c d (by omega) g
 |succ f n=>
  intro pos c d r o g;by_cases hlt:pos<l.length
  .have k:pos<(bs l).size:=hlt
   cases hs:Fm (Utf8.decode (bs l) pos).1
   .obtain⟨k1,p,s⟩:=PO hlt hs
    have hw:=xY (Utf8.decode (bs l) pos).2 (TO l pos c) (l.drop pos) (by rw[eQ];omega) (fun j q=>by rw[Im];exact s j q);rw[eE]at hw;rw[hw]
    cases c with
    |none=>
     rw[spansFromP,aq k,hs,aj (by simp)];rw[n _ _ _ (by omega) (by omega) (fun a h=>by cases h;omega)];simp only[TO,bD];congr 4;omega
    |some a=>
     rw[spansFromP,aq k,hs,aj (by simp)];have h:=g a rfl;rw[n _ _ _ (by omega) (by omega) (fun b hb=>by cases hb;omega)];simp only[TO];rw[La l a pos _ (by omega)]
   .obtain⟨k1,p⟩:=SE hs
    rw[K8 hlt,Lc p]
    cases c with
    |none=>
     rw[spansFromP,aq k,hs,aq rfl];rw[k1,n _ _ _ (by omega) (by omega) (fun a h=>by cases h)];simp[TO]
    |some a=>
     rw[spansFromP,aq k,hs,aq rfl];have h:=g a rfl
     have m:¬TO l pos (some a)=[]:=by
      intro e;have:=ai List.length e;simp[TO]at this;omega
     rw[k1,n _ _ _ (by omega) (by omega) (fun a h=>by cases h)];rw[aj m,aT,aT,aN,bI,aC,Nz];rfl
  .rw[spansFromP_end _ _ _ _ _ _ (show¬pos<(bs l).size from hlt)]
   exact i pos c d (by omega) g
def Bm(l:List UInt8):goFieldsP Fm (bs l)=(iA [] l).map bs:=by
 have h:=Dt l l.length 0 none [] (by omega) (aA _) (fun a h=>by cases h);unfold goFieldsP spansOfP;rw[show(bs l).size=l.length from rfl,h];simp[TO]
def ro{z:Int}{d k:Nat}(c:z.natAbs<10^(k+d))(a:1<=k):(iz z d).length<=k+d+2:=by
 unfold iz oR;have b:0<10^d:=cy (by omega)
 have h1:z.natAbs/10^d<10^k:=by rw[cK b,<- dm];exact c
 have h2:(decDigits (z.natAbs/10^d)).length<=k:=by
  rw[decDigits_length];exact mJ h1 a
 have h3:=pG d (z.natAbs%10^d);rw[al,al]
 have e:(if z<0 then[45]else([]:List UInt8)).length<=1:=by split<;>simp
 have h5:(if z.natAbs%10^d=0 then([]:List UInt8)else 46::jf d (z.natAbs%10^d)).length<=d+1:=by
  split
  .simp
  .simp;omega
 omega
def ZB(u:Nat)(s:Bool)(a:Option Addr)(n c:Nat)(w:World)(m:Nat)(o:Value)(wr:World):Prop:=
 ∃b d,o=.slice b m d/\wr.ownsRow (w+1) 5 1 (.slice b m d) m (Lib.byteCells (dl m u))/\wr.heap[w.heap.size]? =some (.cells #[s,Z a n c] 178 (0,0))/\Below w w wr/\w.heap.size+1<=wr.heap.size
def ZS(z:Int)(w:World)(o:Value)(b:World):Prop:=
 ∃c a L,o=.slice c L a/\L=(De z).length/\b.ownsRow (w+1) 5 1 (.slice c L a) L (Lib.byteCells (De z).reverse)/\Below w w b/\w.heap.size+1<=b.heap.size
def ZR:Value->Nat
 | .slice _ n _=>n
 |_=>0
def M1(s:Bool)(z:Int)(a:Option Addr)(n c:Nat)(w:World)(h:LG w w s a n c z):
 Calls prog 171 #[.agg #[s,Z a n c]] w (iZ w (.string (bs (De z)))):=by
 have hn:=h.2.2;have y:=h.2.1.len
 obtain h0|h0:=cM n
 .subst h0
  have hz:z.natAbs=0:=jC.1 y.symm
  have hz:z=0:=by omega
  subst hz
  have e:De 0=[48]:=by unfold De;rw[show(0:Int).natAbs=0 from rfl,nw (by omega)];rfl
  rw[e];clear h y e;go_enter func171,ntmps171;go_wp2;go_ret;exact⟨rfl,(TH _ _).alloc (ag _) _⟩
 .obtain⟨b,off,rfl,hb,hc⟩:=h.2.1.at h0
  have e7:((n:Int)==0)=false:=by simpa using(by omega:¬(n:Int)=0)
  have Hc:=O hc;have Hs:=O h.1;have a0:=O y;clear hc y h;go_enter func171,ntmps171;go_wp2
  go_loopw [3,4] (fun o i wr=>∃k:Nat,k<=n/\i=.int .i64 k/\ZB z.natAbs s (some ⟨b,off,none⟩) n c w (9*k) o wr) (fun _ i _=>n-(intOf i).toNat)
  case atStart=>exact⟨0,by omega,rfl,none,0,rfl,World.ownsRow_nil _ _ _ _,TL _ _,(TH _ _).alloc (ag _) _,by simp⟩
  case round=>
   obtain⟨k,hk,rfl,va,vc,rfl,a8,Q,a3,b6⟩:=hrel;have k1:wr.cell? ⟨w.heap.size,1,none⟩=some (.slice (some ⟨b,off,none⟩) n c):=(VV Q 1).trans rfl;have r:=O a8;have a1:=O Q;clear a8 Q;by_cases hlt:k<n
   .have K:wr.cell? ⟨b,off+k,none⟩=some (.int .i64 ((ip z.natAbs).getD k 0)):=(a3.cell (p:=⟨b,off+k,none⟩) hb).trans (Hc k hlt)
    rw[Ca]at K;have hu:z.natAbs/1000000000^k%1000000000<1000000000:=cx _ (by omega);generalize hU:z.natAbs/1000000000^k%1000000000=Uq0 at*;have HU:=O hU;clear hU;go_wp2_with fail;obtain⟨wo,rfl⟩:∃wo:World,wo=wr:=⟨_,rfl⟩
    go_loopw [3,5,6] (fun o d i wr=>∃j:Nat,j<=9/\i=.int .i64 j/\d=.int .i64 ((Uq0/10^j:Nat):Int)/\ZB z.natAbs s (some ⟨b,off,none⟩) n c w (9*k+j) o wr) (fun _ _ i _=>9-(intOf i).toNat)
    case atStart=>exact⟨0,by omega,rfl,by simp,va,vc,rfl,r,a1,a3,b6⟩
    case round=>
     clear k1 K;obtain⟨j,hj,rfl,rfl,d3,d4,rfl,N,x,a4,b0⟩:=hrel;have f2:wr.cell? ⟨w.heap.size,1,none⟩=some (.slice (some ⟨b,off,none⟩) n c):=(VV x 1).trans rfl;have H:=O N;have F:=O x;clear N x;have f5:Uq0/10^j<1000000000:=cX (dp _ _) hu
     have a6:Uq0/10^(j+1)=Uq0/10^j/10:=by rw[bM,eX]
     have c0:=O a6;clear a6
     have c7:j<9->Uq0/10^j%10=z.natAbs/10^(9*k+j)%10:=fun h=>by rw[<- HU];exact YR _ _ _ h
     have d8:=O c7;clear c7;generalize hD:Uq0/10^j=D at*;have HD:=O hD;clear hD;obtain⟨bt,b4⟩:∃bt,bt=UInt8.ofNat (48+D%10):=⟨_,rfl⟩
     have c5:48+(D:Int)%10=(bt.toNat:Int):=by rw[b4,lA (by omega)];omega
     have d7:=O b4;have d6:=O c5;clear b4 c5;by_cases e5:j<9
     .go_wp2_with(refine re rfl (.tmp 29) (.tmp 34) 24 rfl underlying24 (w+1) wr d3 _ d4 _ _ bt rfl H rfl d6 rfl (by omega) b0 ?_)
      intro b7 b1 w2 f W a7 f0;have M:=(a7 w (by omega)).trans F;have t:=W w w (by omega) a4;have v:=O f;have b2:=O M;clear f M W a7 f2;go_wp2
      go_roundw
      case rel=>
       refine⟨j+1,by omega,by go_num,by rw[c0,Int.natCast_ediv];rfl,b7,b1,rfl,?_,b2,t,by omega⟩
       have e:dl (9*k+(j+1)) z.natAbs=dl (9*k+j) z.natAbs++[bt]:=by
        rw[<- cN,YU,<- d8 e5,d7]
       rw[e];exact v
      case measure=>simp[intOf];omega
     .have:j=9:=by omega
      subst this;go_wp2
      go_roundw
      case rel=>exact⟨k+1,by omega,by go_num,d3,d4,rfl,H,F,a4,b0⟩
      case measure=>simp[intOf];omega
   .obtain rfl:k=n:=by omega
    have d1:0<z.natAbs:=by
     obtain e|e:=cM z.natAbs
     .have:=a0.out;rw[e,jP]at this;simp at this;omega
     .exact e
    have c8:Lib.nDigits z.natAbs<=9*k:=by
     obtain h|h:=Dd z.natAbs
     .rw[<- a0]at h;exact h
     .omega
    have e9:=Lib.nDigits_pos z.natAbs;obtain⟨g,rfl,hg,-,-⟩:=T3 r (j:=0) (by rw[wt];omega)
    have b8:Hid (∀q,q<9*k->wr.cell? ⟨g,q,none⟩=some (.int .u8 (48+z.natAbs/10^q%10:Nat))):=O fun q hq=>by
     obtain⟨g',e,_,hc,_⟩:=T3 r (j:=q) (by rw[wt];exact hq);cases e;rw[hc,ZT _ hq]
    have f1:9*k<=vc:=by
     rcases(mz r).2 with⟨e,_⟩|⟨g',cap,e,_,c4,_⟩
     .cases e
     .cases e;exact c4
    go_wp2
    go_loop [3] (fun o=>∃m:Nat,Lib.nDigits z.natAbs<=m/\m<=9*k/\o=.slice (J g) m vc) (fun o=>ZR o)
    case atStart=>exact⟨9*k,c8,ag _,rfl⟩
    case round=>
     obtain⟨m,e6,b5,rfl⟩:=hrel;obtain⟨q,rfl⟩:∃q,m=q+1:=⟨m-1,by omega⟩;have c6:=b8 q (by omega)
     have g3:48+z.natAbs/10^q%10<58:=by have:=cx (z.natAbs/10^q) (show 0<10 by omega);omega
     by_cases hq:Lib.nDigits z.natAbs=q+1
     .have e8:=(Zq hq d1).1
      generalize hX:48+z.natAbs/10^q%10=X at*
      have e0:((X:Int)==48)=false:=by
       rw[ak];omega
      have HX:=O hX;clear hX e8;have Hq:=O hq;clear hq;have k0:wr.cell? (J (w.heap.size))=some (.bool s):=(VV a1 0).trans rfl
      have d0:De z=(if s then[45]else[])++Lib.decDigits z.natAbs:=by
       unfold De;rw[Hs];by_cases h:z<0<;>simp[h]
      have T:=O d0;clear d0
      have a9:wr.ownsRow (w+1) 5 1 (.slice (J g) (q+1) vc) (q+1) (Lib.byteCells (Lib.decDigits z.natAbs).reverse):=by
       have h1:=YZ r b5 (by omega)
       have e:(Lib.byteCells (dl (9*k) z.natAbs)).take (q+1)=Lib.byteCells (Lib.decDigits z.natAbs).reverse:=by
        unfold Lib.byteCells;rw[<- List.map_take,YV _ _ _ b5,<- ZC,Hq]
       rw[<- e];exact h1
      have a2:=O a9;clear a9
      go_upto_if 51 with fail
      clear c6
      go_cut [3] (fun o wx=>ZS z w o wx)
      case first=>
       have hL:(De z).length=q+1+(if s then 1 else 0):=by
        rw[T,al,Lib.decDigits_length,Hq];cases s<;>simp<;>omega
       have A:=O hL;clear hL
       cases s with
       |true=>
        go_wp2_with(refine re rfl (.tmp 52) (.tmp 53) 24 rfl underlying24 (w+1) wr _ _ vc _ _ 45 rfl a2 rfl rfl rfl (by omega) b6 ?_)
        intro b7 b1 w2 f W a7 f0;have t:=W w w (by omega) a3;have v:=O f;clear f W a7;go_wp2;go_meet;refine⟨b7,b1,q+1+1,rfl,by rw[A];rfl,?_,t,by omega⟩
        have e:(De z).reverse=(Lib.decDigits z.natAbs).reverse++[45]:=by rw[T];simp
        rw[e];exact v
       |false=>
        go_wp2;go_meet;refine⟨_,vc,q+1,rfl,by rw[A];rfl,?_,a3,b6⟩
        have e:(De z).reverse=(Lib.decDigits z.natAbs).reverse:=by rw[T];simp
        rw[e];exact a2
      case rest=>
       obtain⟨va,b1,L,rfl,hL,f,t,f4⟩:=hcut
       have f6:L<=5401:=by
        rw[hL,T,al,Lib.decDigits_length,Hq];cases s<;>simp<;>omega
       have f7:0<L:=by
        rw[hL,T,al,Lib.decDigits_length,Hq];omega
       obtain⟨g2,rfl,g0,-,-⟩:=T3 f (j:=0) (by simp;omega)
       have E:Hid (∀j,j<L->wc.cell? ⟨g2,L-1-j,none⟩=some (.int .u8 ((De z).getD j 0).toNat)):=O fun j hj=>by
        obtain⟨g',e,_,hc,_⟩:=T3 f (j:=L-1-j) (by simp;omega);cases e;rw[hc];congr 4;rw[ah,ah,List.getElem?_reverse (by omega)]
        congr 2;omega
       have e4:g2<wc.heap.size:=by
        rcases(mz f).2 with⟨e,_⟩|⟨g',cap,e,_,_,hc⟩
        .cases e
        .cases e;exact hc.lt
       have A:=O hL;clear hL f hk k1 hlt c8 e9 f1 e6 b5 e0 d1 h0 hn e7
       go_wp2_with(refine Wb rfl (.tmp 56) (.tmp 56) 24 rfl underlying24 (L:Int) L rfl rfl rfl (by omega) ?_)
       intro w3 a5 b3 g1;have c2:=t.trans (b3.mono (by omega))
       have S:Hid (∀j,j<L->w3.cell? ⟨g2,L-1-j,none⟩=some (.int .u8 ((De z).getD j 0).toNat)):=O fun j hj=>(b3.cell (p:=⟨g2,L-1-j,none⟩) e4).trans (E j hj)
       clear E;generalize hG:wc.heap.size=Gq0 at*;have HG:=O hG;clear hG b3;have b9:=O a5;clear a5;go_wp2
       go_loopw [8] (fun i wx=>∃k:Nat,k<=L/\i=.int .i64 k/\mO wx Gq0 (Lib.byteCells (tx (De z) k)) 5/\TQ Gq0 w3 wx) (fun i _=>L-(intOf i).toNat)
       case atStart=>exact⟨0,by omega,rfl,by rw[Y2,<- A];exact b9,TQ.refl _ _⟩
       case round=>
        obtain⟨j,hj,rfl,C,l⟩:=hrel;by_cases hlt:j<L
        .have f8:=(l.cell (p:=⟨g2,L-1-j,none⟩) (by simp;omega)).trans (S j hlt)
         have f9:=C.free j;have f3:=C.cell (j:=j) (by rw[Lib.byteCells_length,T5 _ (by have:=A.out;omega)];have:=A.out;omega)
         have e1:((L:Int)-1-(j:Int))=((L-1-j:Nat):Int):=by omega
         have R:=C.set j (by rw[Lib.byteCells_length,T5 _ (by have:=A.out;omega)];have:=A.out;omega) (.int .u8 ((De z).getD j 0).toNat);rw[YQ,Ze _ (by have:=A.out;omega)]at R;have c9:=l.set j (.int .u8 ((De z).getD j 0).toNat);have c1:=O R;have d9:=O c9;clear R c9 C
         have e2:0<=(L:Int)-1-(j:Int):=by omega
         have e3:((L:Int)-1-(j:Int)).toNat=L-1-j:=by omega
         clear e1;go_wp2
         go_roundw
         case rel=>exact⟨j+1,by omega,by go_num,by simpa using c1.out,by simpa using d9.out⟩
         case measure=>simp[intOf];omega
        .obtain rfl:j=L:=by omega
         rw[A,Zd]at C
         have d5:(convert 24 9 (.slice (J Gq0) j j)).run prog wr=.ok (.string (bs (De z))) wr:=by
          have:=run_convert_bytes_back (P:=prog) wr 24 9 5 (J Gq0) j (De z) underlying24 underlying5 underlying9 (fun i hi=>by
           have:=C.cell (j:=i) (by rw[Lib.byteCells_length];exact hi);rw[Addr.add_mid,aV,this]
           simp[Lib.byteCells])
          rw[<- A]at this;exact this
         have c3:=c2.trans (l.below (B:=w.heap.size) (by omega));clear C l;go_wp2;go_ret;exact⟨rfl,c3⟩
     .have d2:=Y1 (u:=z.natAbs) (m:=q) (by omega)
      rw[d2]at c6;clear d2;go_wp2
      go_round
      case rel=>exact⟨q,by omega,by omega,rfl⟩
      case measure=>simp[ZR]
def LG.notVar{N:Nat}{w:World}{s x:Bool}{a p:Option Addr}{n c q r g:Nat}{z:Int}{T:TypeId}{fr:Nat×Nat}(h:LG N w s a n c z)(j:w.heap[g]? =some (.cells #[x,Z p q r] T fr)):∀b off,a=some ⟨b,off,none⟩->0<n->b≠g:=by
 intro b off e h0 i;subst i e;obtain⟨b',d,e,_,f⟩:=h.2.1.at h0;cases e;have h1:=f 0 h0;rw[bE]at h1;simp only[World.cell?,j]at h1
 match off,h1 with
 |0,h1=>cases h1
 |1,h1=>cases h1
 |k+2,h1=>simp at h1
def LV(w:World)(g:Nat)(z:Int):Prop:=
 ∃s p q c,w.heap[g]? =some (.cells #[.bool s,Z p q c] 178 (0,0))/\LG w w s p q c z
def LV.below{w w':World}{g:Nat}{z:Int}(h:LV w g z)(hb:Below w w w'):LV w' g z:=by
 obtain⟨s,p,q,c,h1,h2⟩:=h;exact⟨s,p,q,c,(hb.block g (TK h1)).trans h1,h2.go hb⟩
def LV.lt{w:World}{g:Nat}{z:Int}(h:LV w g z):g<w.heap.size:=let⟨_,_,_,_,h1,_⟩:=h;TK h1
def LV.alloc{w:World}{g:Nat}{z:Int}(h:LV w g z)(o:Obj):LV (w.alloc o) g z:=h.below ((TH _ _).alloc (ag _) _)
def LV.new{w:World}{s:Bool}{p:Option Addr}{q c:Nat}{z:Int}(h:LG w w s p q c z):LV (w.alloc (.cells #[s,Z p q c] 178)) w z:=
 ⟨s,p,q,c,TL _ _,by simpa using h.go ((TH _ _).alloc (ag _) _)⟩
def LG.setVar{w:World}{g:Nat}{z d:Int}{s:Bool}{p:Option Addr}{q c:Nat}(b:LV w g d)(h:LG w w s p q c z)(u v:Value):
 LG ((w.setCell (J g) u).setCell ⟨g,1,none⟩ v).heap.size ((w.setCell (J g) u).setCell ⟨g,1,none⟩ v) s p q c z:=by
 obtain⟨s',e,f,c',h1,_⟩:=b;have a:=h.notVar h1;have:=(h.setCell (J g) u a).setCell ⟨g,1,none⟩ v a;simpa using this
def LV.store{w:World}{g:Nat}{z b:Int}{s:Bool}{p:Option Addr}{q c:Nat}(a:LV w g b)(h:LG w w s p q c z):
 LV ((w.setCell (J g) (.bool s)).setCell ⟨g,1,none⟩ (.slice p q c)) g z:=by
 have h2:=h.setVar a (.bool s) (.slice p q c);obtain⟨s',d,e,c',h1,_⟩:=a;refine⟨s,p,q,c,?_,h2⟩;rw[gG (w:=w.setCell (J g) (.bool s)) (by exact gG h1 0 (.bool s)) 1 (.slice p q c)];rfl
def LV.other{w:World}{g k:Nat}{z d:Int}(h:LV w k z)(b:LV w g d)(a:g≠k)(u v:Value):LV ((w.setCell (J g) u).setCell ⟨g,1,none⟩ v) k z:=by
 obtain⟨s,p,q,c,h1,h2⟩:=h;exact⟨s,p,q,c,gF (gF h1 _ a _) _ a _,h2.setVar b u v⟩
def LV.below_store{B:Nat}{w0 w:World}{g:Nat}(hb:Below B w0 w)(a:B<=g)(u v:Value):Below B w0 ((w.setCell (J g) u).setCell ⟨g,1,none⟩ v):=(hb.setCell (p:=J g) a u).setCell (p:=⟨g,1,none⟩) a v
def M2(k:Nat):decide ((k:Int) <0)=false:=aw (by omega)
def Y4(k:Nat):De (k:Int)=Lib.decDigits k:=by
 unfold De;rw[aj (by omega),aB];rfl
def Zj(z:Int)(d:Nat):iz z d=(if z<0 then[45]else[])++Lib.decDigits (z.natAbs/10^d)++(if z.natAbs%10^d=0 then[]else 46::jf d (z.natAbs%10^d)):=by
 unfold iz oR;rw[aC]
def ZZ(T:List UInt8)(a b:Nat)(w:World)(c:Value)(wr:World):Prop:=
 ∃(j r:Nat)(T1:List UInt8),j<=18/\r<10^j/\c=.string (bs T1)/\T1++jf j r=T/\LV wr a ((10^j:Nat):Int)/\LV wr b (r:Int)/\Below w w wr
def ZX:Value->Nat
 | .string s=>s.size
 |_=>0
def Y6(j:Nat):jf j 0=[]:=by
 cases j with
 |zero=>rfl
 |succ j=>rw[jf,aq rfl]
def EI{u k:Nat}(h:(ip u).length<=k)(a:1<=k):(Lib.decDigits u).length<=9*k:=by
 rw[Lib.decDigits_length]
 obtain e|e:=Dd u
 .omega
 .subst e;rw[Lib.nDigits_small (by omega)];omega
def Zl{i:Nat}(h:i<=18):(ip (10^i)).length<=3:=iB (by
 have:10^i<=10^18:=dA (by omega) h
 exact cX this (by decide))
def ZY(z:Int)(w:World)(b:Value)(a:World):Prop:=
 b=.string (bs (if z<0 then[45]else[]))/\LV a w (z.natAbs:Int)/\Below w w a
def ZP(u:Nat)(w:World)(g i:Nat)(wr:World):Prop:=
 LV wr w (u:Int)/\LV wr g ((10^i:Nat):Int)/\Below w w wr/\w.heap.size<g
def YP(z:Int)(s:Bool)(a:Option Addr)(n c d:Nat)(w:World)(h:LG w w s a n c z)(hd:d<=18):
 Calls prog 114 #[.agg #[s,Z a n c],.int .i64 (d:Int)] w (iZ w (.string (bs (iz z d)))):=by
 have d2:=LV.new h;have i0:Below w w (w.alloc (.cells #[s,Z a n c] 178)):=(TH _ _).alloc (ag _) _;have f6:=h.go i0;have p6:=O h.2.1.len;have p5:=h.2.2;have b7:=O d2;have Hs:=O h.1;have h0:=O i0;have j2:=O f6;clear h d2 i0 f6;go_enter func114,ntmps114
 go_upto_if 13 with fail
 go_cut [5] (fun tv wx=>ZY z w tv wx)
 case first=>
  cases s with
  |true=>
   have hz:z<0:=by simpa using Hs.symm
   have Hz:=O hz;clear hz;go_wp2_with fail;refine(wh true z a n c _ j2).mono ?_;rintro e W ⟨s1,a1,n1,c1,rfl,f7,C,r5⟩;have i5:=b7.below C;obtain⟨_,_,_,_,h1,_⟩:=id i5;obtain⟨k1,k2,k3,k4⟩:=gQ h1;have q8:=O i5;have j3:=O f7;have p8:=O (h0.trans (C.mono h0.size));clear i5 f7 C r5 h1;go_wp2;go_meet;refine⟨by rw[aq Hz.out],?_,LV.below_store p8 (ag _) _ _⟩;have:=q8.store j3;rw[show(-z:Int)=(z.natAbs:Int)by have:=Hz.out;omega]at this;exact this
  |false=>
   have hz:¬z<0:=by simpa using Hs.symm
   have Hz:=O hz;clear hz;go_wp2;go_meet;refine⟨by rw[aj (by have:=Hz.out;omega)],?_,h0⟩;rw[show(z.natAbs:Int)=z by have:=Hz.out;omega];exact b7
 case rest=>
  obtain⟨rfl,o2,n0⟩:=hcut;generalize hT:(if z<0 then[45]else([]:List UInt8))=T0 at*;have l6:=O o2;have k8:=O n0;have HT:=O hT;clear o2 n0 hT;go_wp2_with fail;refine(Ku 1 _ (by omega)).mono ?_;rintro e W ⟨s1,a1,n1,c1,rfl,n3,C,-⟩;have hz:=k8.size;have hp:=(l6.below C).alloc (.cells #[s1,Z a1 n1 c1] 178);have o1:LV (W.alloc (.cells #[s1,Z a1 n1 c1] 178)) W ((10^0:Nat):Int):=LV.new n3;have i7:=k8.trans (C.mono hz);have hP:ZP z.natAbs w W 0 (W.alloc (.cells #[s1,Z a1 n1 c1] 178)):=⟨hp,o1,i7.alloc i7.size _,by have:=l6.lt;have:=C.size;omega⟩;have HP:=O hP;clear hp o1 i7 hP C n3 hz;go_wp2
  go_loopw [7] (fun iv wr=>∃i:Nat,i<=d/\iv=.int .i64 i/\ZP z.natAbs w W i wr) (fun iv _=>d-(intOf iv).toNat)
  case atStart=>exact⟨0,aA _,rfl,HP⟩
  case round=>
   obtain⟨i,hi,rfl,d2,b,o6,hg⟩:=hrel;have c7:=b.lt;obtain⟨s6,a6,n6,c6,b8,b9⟩:=id b;obtain⟨q1,q2,f1,f2⟩:=gQ b8;have P:=O b9;have b7:=O d2;have d9:=O b;have e4:=O o6;clear b8 b9 d2 b o6 HP;by_cases u8:i<d
   .go_wp2_with fail
    refine gS 3 [(0,true),(1,false),(2,false)] (by kernel_rfl) (by kernel_rfl) ?_;refine gU (v:=?_) ?_ ?_;rotate_left
    .intro x hx
     have z1:=(hx.cell (p:=J (W.heap.size)) c7).trans q1;have z2:=(hx.cell (p:=⟨W.heap.size,1,none⟩) c7).trans q2;go_simp;with_reducible rfl
    (try simp only[V]);refine gP (fun KK c3=>?_);go_simp;refine(Ku 10 _ (by omega)).mono ?_;rintro e w4 ⟨s4,a4,n4,c4,rfl,q,m,-⟩;refine c3 _ _ m ?_;clear c3 KK;(try simp only[V]);have k7:=O (gJ (k:=1) m);have F:=O q;have p9:=O (P.go (gJ (k:=1) m));clear m q;refine gP (fun KK c3=>?_);go_simp;refine(qA s6 s4 ((10^i:Nat):Int) (10:Nat) a6 a4 n6 n4 c6 c4 _ p9 F ?_).mono ?_
    .rw[<- bW,aB,<- bM];exact af (Zl (by omega)) (by omega)
    rintro e w5 ⟨s5,a5,n5,c5,rfl,t,S,-⟩;refine c3 _ _ S ?_;clear c3 KK;(try simp only[V]);have l:Below wr wr w5:=k7.trans (S.mono k7.size);have i6:=d9.below l;have f9:=b7.below l;have o4:=e4.trans (l.mono e4.size);obtain⟨_,_,_,_,h5,_⟩:=id i6;obtain⟨k1,k2,g1,g2⟩:=gQ h5;have l4:=O i6;have j4:=O f9;have r0:=O o4;have H:=O t;clear q1 q2 f1 f2 S t h5 i6 f9 o4 l;refine iu rfl ?_;go_wp2
    go_roundw
    case rel=>
     refine⟨i+1,by omega,by go_num,j4.other l4 (by omega) _ _,?_,LV.below_store r0 (by omega) _ _,hg⟩;rw[bM,bW];exact l4.store H
    case measure=>simp[intOf];omega
   .obtain rfl:i=d:=by omega
    obtain⟨s2,a2,n2,c2,m3,m4⟩:=id b7;obtain⟨r1,r2,-,-⟩:=gQ m3;have k0:=O m4;clear m3 m4
    have r8:n6<=599:=by
     have h1:=P.2.1.len;rw[aB]at h1;have h2:=Zl hd;omega
    have f8:0<10^i:=cy (by omega);have d7:=O f8;clear f8
    have r9:s2=false:=by rw[k0.1];exact M2 _
    have i4:s6=false:=by rw[P.1];exact M2 _
    subst r9 i4;go_wp2_with fail;refine(YD z.natAbs (10^i) a2 a6 n2 n6 c2 c6 _ k0 P d7 r8).mono ?_;rintro e w3 ⟨s8,a8,n8,c8,s9,a9,n9,c9,rfl,i3,u,e6,-,-⟩;have t3:=e6.size;have g3:=d9.below e6;have M:=e4.trans (e6.mono e4.size);have T:=(LV.new i3).alloc (.cells #[s9,Z a9 n9 c9] 178);have e9:=u.go (w':=w3.alloc (.cells #[s8,Z a8 n8 c8] 178)) ((TH _ _).alloc (ag _) _);have f:=LV.new e9;have g0:=(g3.alloc (.cells #[s8,Z a8 n8 c8] 178)).alloc (.cells #[s9,Z a9 n9 c9] 178);have g6:=(M.alloc M.size (.cells #[s8,Z a8 n8 c8] 178)).alloc (by simp;have:=M.size;omega) (.cells #[s9,Z a9 n9 c9] 178);have b1:=(i3.go (w':=(w3.alloc (.cells #[s8,Z a8 n8 c8] 178)).alloc (.cells #[s9,Z a9 n9 c9] 178)) (iH _ _));have q9:=O T;have e2:=O f;have e0:=O g0;have l7:=O g6;have k9:=O b1;clear g3 M T e9 f g0 g6 b1 i3 u e6 r1 r2 q1 q2 f1 f2;go_wp2_with fail;refine(M1 s8 _ a8 n8 c8 _ k9).mono ?_;rintro e w4 ⟨rfl,m⟩;rw[Y4];have f:=e2.below m;have b:=e0.below m;have o3:=l7.trans (m.mono l7.size);have b5:=Zj z i;rw[HT]at b5;obtain⟨o9,l9,d3,m0,c0,a0⟩:=id f;obtain⟨k1,k2,g1,g2⟩:=gQ c0;have u:=a0.2.1.len;rw[aB]at u;have e5:=cx z.natAbs d7;generalize hR:z.natAbs%10^i=R at*
    have e7:(w3.alloc (.cells #[s8,Z a8 n8 c8] 178)).heap.size=w3.heap.size+1:=by simp
    rw[e7]at f k1 k2 g1 g2;have hQ:(Lib.decDigits (z.natAbs/10^i)).length<=5400:=EI (af (iM (dp _ _)) (by rw[<- p6];exact p5)) (by omega);generalize Lib.decDigits (z.natAbs/10^i)=Q at*
    have u3:T0.length<=1:=by rw[<- HT];split<;>simp
    have j7:=oQ T0 Q
    have u4:(T0++Q).length<=5401:=by rw[al];omega
    generalize hT1e:T0++Q=T1 at*;have t2:=O hT1e;clear hT1e;have A:=O f;have X:=O b;have l8:=O o3;have d8:=O b5;have HR:=O hR;have l0:=O u;have i9:=O e5;clear f b o3 m e7 c0 a0 b5 hR u e5 e2 e0 k9 q9;by_cases a3:R=0
    .have d0:d3=0:=by rw[l0,a3,jP];rfl
     subst d0;have g9:=O a3;clear a3;go_wp2;go_ret;refine⟨?_,l8⟩;rw[d8,aq g9.out,bG];rfl
    .have d0:0<d3:=by
      rw[l0]
      obtain e|e:=cM (ip R).length
      .exact absurd (jC.1 e) a3
      .exact e
     have t4:((d3:Int)==0)=false:=by simp;omega
     have g9:=O a3;clear a3;have b0:=oQ T1 [46];have m2:(bs [46]:ByteArray)={data:=#[46]}:=rfl;rw[m2]at b0
     have u5:(T1++[46]).length<=5402:=by rw[al];simp;omega
     generalize hT2e:T1++[46]=T2 at*;have j0:=O hT2e;clear hT2e m2;go_wp2_with fail;have j8:=X.lt;have j9:=A.lt
     have m5:W.heap.size≠w3.heap.size+1:=by omega
     have t0:w.heap.size<=w3.heap.size+1:=by omega
     generalize hB9:w3.heap.size+1=B9 at*;have t8:=O hB9;clear hB9;generalize hB6:W.heap.size=B6 at*;have t7:=O hB6;clear hB6
     have E:T2++jf i R=iz z i:=by
      rw[d8,aj g9.out,<- j0,aC];rfl
     have l3:=O E;clear E
     have t5:(iz z i).length<=6000:=by
      have h1:=ai List.length l3;have h2:=pG i R;rw[al]at h1;omega
     go_loopw [5,10,11] (fun tv _ _ wr=>ZZ (iz z i) B6 B9 w tv wr) (fun tv _ _ _=>(iz z i).length-ZX tv)
     case atStart=>exact⟨i,R,T2,hd,i9,rfl,l3,X,A,l8⟩
     case round=>
      clear k1 k2 g1 g2 j7 b0 j8 j9;obtain⟨j,r,Tk,hj,hr,rfl,h9,b,f,hw⟩:=hrel;obtain⟨s6,a6,n6,c6,b8,b9⟩:=id b;obtain⟨s9,a9,n9,c9,c0,a0⟩:=id f;obtain⟨p1,p2,-,-⟩:=gQ b8;obtain⟨p3,p4,-,-⟩:=gQ c0;have u:=a0.2.1.len;rw[aB]at u;have c7:=b.lt;have u7:=f.lt
      have u6:Tk.length<=(iz z i).length:=by rw[<- h9,al];omega
      have k6:=O h9;have d9:=O b;have e2:=O f;have Hw:=O hw;have P:=O b9;have t6:=O a0;have d5:=O u;have Hr:=O hr;clear h9 b f hw b9 a0 u hr b8 c0;by_cases d1:r=0
      .have d0:n9=0:=by rw[d5,d1,jP];rfl
       subst d0;subst d1;clear p1 p2 p3;go_wp2;go_ret;refine⟨?_,Hw⟩;have:=k6.out;rw[Y6,bG]at this;rw[this];rfl
      .have d0:0<n9:=by
        rw[d5]
        obtain e|e:=cM (ip r).length
        .exact absurd (jC.1 e) d1
        .exact e
       obtain⟨j,rfl⟩:∃j',j=j'+1:=by
        cases j with
        |zero=>have:=Hr.out;rw[dT]at this;omega
        |succ j=>exact⟨j,rfl⟩
       have q0:=O d1;clear d1;go_wp2_with fail;refine ic 6 [5] [] [(0,true),(1,false),(2,false),(3,true),(4,true),(5,true)] (by kernel_rfl) (by kernel_rfl) ⟨by simp,by simp,fun _ h=>by cases h⟩ (fun _ _ _ _ _ h=>h) (fun _ _ o _ _ h=>by cases o<;>exact h) ?_;refine gZ (v:=?_) ?_ ?_;rotate_left
       .intro x hx
        have z1:=(hx.cell (p:=J B6) c7).trans p1;have z2:=(hx.cell (p:=⟨B6,1,none⟩) c7).trans p2;go_simp;with_reducible rfl
       (try simp only[V]);refine iK (fun x1 o7 K hK=>?_);go_simp;have b6:Below wr wr x1:=gJ (k:=1) o7;refine(Ku 10 _ (by omega)).mono ?_;rintro e t1 ⟨s4,a4,n4,c4,rfl,q,m,-⟩;refine hK _ _ m ?_;clear hK K;try simp only[V]
       have s0:s4=false:=by rw[q.1];exact M2 _
       have i4:s6=false:=by rw[P.1];exact M2 _
       subst s0 i4
       have r6:n4<=599:=by
        have h1:=q.2.1.len;rw[aB]at h1;have h2:=Zl (i:=1) (by omega);rw[Nat.pow_one]at h2;omega
       have o8:Below wr wr t1:=b6.trans (m.mono b6.size);have h4:=O o8;have F:=O q;clear m q o7 b6 o8;refine iK (fun x2 i8 K hK=>?_);go_simp;have N:=h4.trans (i8.mono h4.size);refine(YD (10^(j+1)) 10 a6 a4 n6 n4 c6 c4 _ (P.go N) (F.go i8) (by omega) r6).mono ?_;rintro e w5 ⟨s5,a5,n5,c5,v5,t9,v0,u0,rfl,t,-,S,-,-⟩;refine hK _ _ S ?_;clear hK K;try simp only[V]
       have m1:10^(j+1)/10=10^j:=by rw[bM,Nat.mul_div_cancel _ (by omega)]
       rw[m1]at t;clear m1;have h6:=O (N.trans (S.mono N.size));have H:=O t;clear i8 N S t
       iterate 3
        refine iy (v:=?_) ?_ ?_;rotate_left
        .intro y
         go_simp;with_reducible rfl
        try simp only[V]
       refine jV rfl (fun w6 i1=>?_);have B:=H.go i1;have l:Below wr wr w6:=h6.trans (i1.mono h6.size);have b:=d9.below l;have f:=e2.below l;have o5:=Hw.trans (l.mono Hw.size);obtain⟨_,_,_,_,h5,_⟩:=id b;obtain⟨q1,q2,q3,q4⟩:=gQ h5;obtain⟨o9,l9,d3,m0,m9,h7⟩:=id f;obtain⟨q5,q6,-,-⟩:=gQ m9;have g4:=b.store B;have g5:=f.other b m5 (.bool s5) (.slice a5 n5 c5);have f0:=h7.setVar b (.bool s5) (.slice a5 n5 c5);have e8:=B.setVar b (.bool s5) (.slice a5 n5 c5);have g7:=LV.below_store o5 (by omega) (.bool s5) (.slice a5 n5 c5) (g:=B6)
       have s3:s5=false:=by rw[B.1];exact M2 _
       have s7:o9=false:=by rw[h7.1];exact M2 _
       subst s3 s7
       have r7:n5<=599:=by
        have h1:=B.2.1.len;rw[aB]at h1;have h2:=Zl (i:=j) (by omega);omega
       have e1:=O g4;have e3:=O g5;have d6:=O f0;have d4:=O e8;have b3:=O g7;clear p1 p2 p3 p4 i1 B h5 b f o5 l m9 h7 g4 g5 f0 e8 g7 h6 H h4 F;go_wp2_with fail;generalize hW6:((w6.setCell (J B6) (.bool false)).setCell ⟨B6,1,none⟩ (.slice a5 n5 c5))=W6 at*;clear hW6;refine(YD r (10^j) l9 a5 d3 n5 m0 c5 _ d6 d4 (cy (by omega)) r7).mono ?_;rintro e w7 ⟨sa,aa,na,ca,sb,ab,nb,cb,rfl,n7,o0,i2,-,-⟩;have f3:=n7.go (w':=(w7.alloc (.cells #[sa,Z aa na ca] 178)).alloc (.cells #[sb,Z ab nb cb] 178)) (iH _ _);have L:Below W6 W6 ((w7.alloc (.cells #[sa,Z aa na ca] 178)).alloc (.cells #[sb,Z ab nb cb] 178)):=i2.trans ((iH _ _).mono i2.size);have f4:=o0.go (w':=(w7.alloc (.cells #[sa,Z aa na ca] 178)).alloc (.cells #[sb,Z ab nb cb] 178)) (iH _ _);have m6:((w7.alloc (.cells #[sa,Z aa na ca] 178)).alloc (.cells #[sb,Z ab nb cb] 178)).heap[w7.heap.size+1]? =some (.cells #[sb,Z ab nb cb] 178 (0,0)):=(iN _ _ _).2;have l5:=O (e1.below L);have A:=O (e3.below L);have h3:=O (b3.trans (L.mono b3.size));have l1:=O f3;have l2:=O f4;have k5:=O m6;clear n7 o0 i2 f3 L f4 m6 e1 e3 d6 d4 b3 q1 q2 q3 q4 q5 q6;go_wp2_with fail;refine(M1 sa _ aa na ca _ l1).mono ?_;rintro e w8 ⟨rfl,a7⟩;rw[Y4];have m8:=(a7.block (w7+1) (by simp)).trans k5;obtain⟨u1,u2,-,-⟩:=gQ m8;have T:=A.below a7;have f5:=l2.go a7;obtain⟨_,_,_,_,m7,_⟩:=id T;obtain⟨v1,v2,v3,v4⟩:=gQ m7;have j5:=O ((l5.below a7).other T (fun e=>m5 e.symm) (.bool sb) (.slice ab nb cb));have j6:=O (T.store f5);have r3:=O (LV.below_store (h3.trans (a7.mono h3.size)) t0 (.bool sb) (.slice ab nb cb));clear a7 m8 T f5 m7 l1 l2 k5 l5 A h3
       have g8:r/10^j<10:=by
        rw[cK (cy (by omega))];have:=Hr.out;rw[bM]at this;omega
       have b2:=Y0 q0 Hr
       have r4:(Lib.decDigits (r/10^j)).length=1:=by rw[nw g8];rfl
       have q7:=O (cx r (cy (n:=j) (by omega:0<10)));generalize Lib.decDigits (r/10^j)=D at*
       have h8:(Tk++D).length=Tk.length+1:=by rw[al,r4]
       have p0:=oQ Tk D
       have b4:Tk++D++jf j (r%10^j)=iz z i:=by rw[<- k6,b2,aC]
       have u9:Tk.length+1<=(iz z i).length:=by rw[<- b4,al,h8];omega
       have p7:=O h8;have j1:=O b4;clear h8 b4 b2;go_wp2
       go_roundw
       case rel=>exact⟨j,r%10^j,Tk++D,by omega,q7,rfl,j1,j5,j6,r3⟩
       case measure=>
        show(iz z i).length-(Tk++D).length<(iz z i).length-Tk.length
        rw[p7];omega
def QT(n:Nat)(w:World)(q d:Value)(wr:World):Prop:=
 ∃(k:Nat)(a:Option Addr)(b:Nat)(zs:List Int),q=.int .i64 (-(k:Int))/\d=.slice a zs.length b/\(k:Int)<=9223372036854775808/\ip n=zs++ip k/\
  wr.ownsRow (w+1) 3 1 (.slice a zs.length b) zs.length (zs.map (Value.int .i64))/\
  wr.heap[w.heap.size]? =some (.cells #[false,oN] 178 (0,0))/\Below w w wr/\w.heap.size+1<=wr.heap.size
def KC(n:Nat)(w:World)(h0:0<n)(hn:(n:Int)<=9223372036854775808):
 Calls prog 115 #[.int .i64 (-(n:Int))] w (tb w (-(n:Int))):=by
 have l:=nu (-(n:Int)) (by omega) (by omega);rw[Int.natAbs_neg,aB]at l;have j:=O l;clear l
 have a7: -(n:Int) <0:=by omega
 go_enter func115,ntmps115;go_wp2
 go_loopw [0,3] (fun q d wr=>QT n w q d wr) (fun q _ _=>(intOf q).natAbs)
 case atStart=>exact⟨n,none,0,[],rfl,rfl,hn,by simp,World.ownsRow_nil _ _ _ _,TL _ _,(TH _ _).alloc (ag _) _,by simp⟩
 case round=>
  obtain⟨k,va,vc,zs,rfl,rfl,b2,hd,u,E,t,x⟩:=hrel;have D:=O hd;have h:=O u;have y:=O E;clear hd u E;by_cases H:k=0
  .subst H
   obtain⟨a3,a4,a5,a6⟩:=gQ y
   have r:ip n=zs:=by have:=D.out;simpa[jP]using this
   have a0:=O (ur h);go_wp2_with fail;refine(nl true zs (-(n:Int)) _ _ _ _ a0 (by rw[<- r];exact iU n) (by rw[<- r];have:=j.out;omega) (by rw[<- r,iY,aI];have:=j.out;omega) (by rw[<- r];simp[iY])).mono ?_;rintro e w1 ⟨s,a,m,c,rfl,M,o,hf⟩;have a1:=(o.cell (p:=J (w.heap.size)) (by show w.heap.size<wr.heap.size;omega)).trans a3;have a2:=(o.cell (p:=⟨w.heap.size,1,none⟩) (by show w.heap.size<wr.heap.size;omega)).trans a4;have a8:=(o.frozen (p:=J (w.heap.size)) (by show w.heap.size<wr.heap.size;omega)).trans a5;have a9:=(o.frozen (p:=⟨w.heap.size,1,none⟩) (by show w.heap.size<wr.heap.size;omega)).trans a6;have X:=O M;have Hf:=O hf;clear M hf r;go_wp2_with fail;refine ar (v:=.agg #[s,Z a m c]) ?_ rfl ?_
   .simp[results,results115,go_sem,a1,a2]
   .exact pF X (t.trans (o.mono t.size)) Hf w (by omega) (ag _) _ _
  .have L:0<k:=by omega
   have F:=D.out
   have b3:zs.length<=3:=by have:=j.out;rw[F,al]at this;omega
   have hx:ip k=[((k%1000000000:Nat):Int)]++ip (k/1000000000):=by rw[nU L];rfl
   have Hx:=O hx;clear hx;have ht:=xB (k:= -(k:Int)) (by omega);have hq:=xC (k:= -(k:Int)) (by omega);rw[show(- -(k:Int))%1000000000=((k%1000000000:Nat):Int)by omega]at ht;rw[show(- -(k:Int))/1000000000=((k/1000000000:Nat):Int)by omega]at hq
   have hb:((-(k:Int)) !=0)=true:=by simp;omega
   have hm:k/1000000000<k:=by omega
   have b5:k%1000000000<1000000000:=cx _ (by omega)
   have N:((k/1000000000:Nat):Int)<=9223372036854775808:=by omega
   have b4:((k/1000000000:Nat):Int)<=9223372037:=by omega
   have Hm:=O hm;clear hm F;generalize hR:k%1000000000=R at*;generalize hQ:k/1000000000=Q at*;have HR:=O hR;have HQ:=O hQ;clear hR hQ;generalize hK: -(k:Int)=K at*;have W:=O hK
   have b1:K<0:=by omega
   have b0: -9223372036854775808<=K:=by omega
   clear hK H L;by_cases P:R=0
   .subst P
    go_wp2_with(refine ju rfl (.tmp 16) (.tmp 18) 109 rfl underlying109 (w+1) _ _ zs rfl (h.alloc _) _ _ 1 1 [_] rfl (SL.one wr _ _) (by simp) (by omega) (by simp;omega) ?_)
    intro v' w1 g f;obtain⟨B,C,rfl⟩:=kx g;have A:=(jI (base:=w.heap.size+1) h f (b:=w.heap.size) (by omega) x).trans y;have S:=jF t h f (by omega) x;have T:=f.size;have z:=O A;have i:=O g;clear A g f;go_wp2
    go_roundw
    case rel=>
     refine⟨Q,B,C,zs++[0],rfl,by simp,N,(by rw[D,Hx,aC];try rfl),?_,z,S,?_⟩
     .simpa using i.out
     .simp at T⊢;omega
    case measure=>
     have:=Hm.out;have:=W.out;simp[intOf];omega
   .have b6:0<R:=by omega
    clear P
    go_wp2_with(refine ju rfl (.tmp 16) (.tmp 18) 109 rfl underlying109 (w+1) _ _ zs rfl (h.alloc _) _ _ 1 1 [_] rfl (SL.one wr _ _) (by simp) (by omega) (by simp;omega) ?_)
    intro v' w1 g f;obtain⟨B,C,rfl⟩:=kx g;have A:=(jI (base:=w.heap.size+1) h f (b:=w.heap.size) (by omega) x).trans y;have S:=jF t h f (by omega) x;have T:=f.size;have z:=O A;have i:=O g;clear A g f;go_wp2
    go_roundw
    case rel=>
     refine⟨Q,B,C,zs++[(R:Int)],rfl,by simp,N,(by rw[D,Hx,aC];try rfl),?_,z,S,?_⟩
     .simpa using i.out
     .simp at T⊢;omega
    case measure=>
     have:=Hm.out;have:=W.out;simp[intOf];omega
def oT(z:Int)(w:World)(h1: -9223372036854775808<=z)(h2:z<=9223372036854775807):
 Calls prog 115 #[z] w (tb w z):=by
 by_cases h:z<0
 .have:=KC z.natAbs w (by omega) (by omega)
  rw[show(-(z.natAbs:Int))=z by omega]at this;exact this
 .have:=Ku z.natAbs w (by omega)
  rw[show((z.natAbs:Int))=z by omega]at this;exact this
def Y7(z:Int)(d:Nat)(w:World)(h1: -9223372036854775808<=z)(h2:z<=9223372036854775807)(i:d<=18):
 Calls prog 75 #[z,.int .i64 (d:Int)] w (iZ w (.tuple #[.string (bs (iz z d)),oZ])):=by
 have k:¬(d:Int) <0:=by omega
 have l:¬18<(d:Int):=by omega
 go_enter func75,ntmps75;go_wp2_with fail;refine(oT z _ h1 h2).mono ?_;rintro e m ⟨s1,a1,j,c1,rfl,f,b,-⟩;have h:=O f;have a:=O b;clear f b;go_wp2_with fail;refine(YP z s1 a1 j c1 d _ h i).mono ?_;rintro e n ⟨rfl,c⟩;have g:=O (a.trans (c.mono a.size));clear c;go_wp2;go_ret2;exact⟨rfl,g⟩
def BR(S:Nat->Prop)(w:World)(a:Option Addr)(n c:Nat)(zs:List Int):Prop:=
 zs.length=n/\n<=c/\(∀j,j<n-> ∃b off,a=some ⟨b,off,none⟩/\S b/\w.cell? ⟨b,off+j,none⟩=some (.int .u8 (zs.getD j 0))/\0<=zs.getD j 0/\zs.getD j 0<=255)
def BR.kept{S T:Nat->Prop}{w w':World}{a:Option Addr}{n c:Nat}{zs:List Int}(h:BR S w a n c zs)(f:gN S w w')(g:∀b,S b->T b):BR T w' a n c zs:=
 ⟨h.1,h.2.1,fun j d=>let⟨b,off,e,hb,hc,hr⟩:=h.2.2 j d;⟨b,off,e,g b hb,(f.cell (p:=⟨b,off+j,none⟩) hb).trans hc,hr⟩⟩
def BR.go{w w':World}{a:Option Addr}{n c:Nat}{zs:List Int}(h:BR (fun b=>b<w.heap.size) w a n c zs)(hb:Below w w w'):BR (fun b=>b<w'.heap.size) w' a n c zs:=
 h.kept (gE hb) (fun b h=>eb h hb.size)
structure tz where
 kind:Int
 c0:Int
 c1:Int
 k0:Int
 k1:Int
 h0:Int
 h1:Int
 h2:Int
 h3:Int
 p0:Int
 p1:Int
 order:Int
 tg:Int
 gA:Int
 i6:Int
 i7:Int
 b0:Int
 b1:Int
 b2:Int
 b3:Int
 b4:Int
 fb:List Int
def tU(z:Int):Prop:= -128<=z/\z<=127
def qD(z:Int):Prop:= -32768<=z/\z<=32767
def og(z:Int):Prop:=0<=z/\z<=255
def Ci(z:Int):Prop:=0<=z/\z<=65535
structure tz.In (x:tz):Prop where
 kind:og x.kind
 c0:qD x.c0
 c1:qD x.c1
 k0:qD x.k0
 k1:qD x.k1
 h0:tU x.h0
 h1:tU x.h1
 h2:tU x.h2
 h3:tU x.h3
 p0:tU x.p0
 p1:tU x.p1
 order:tU x.order
 tg:qD x.tg
 gA:og x.gA
 i6:og x.i6
 i7:og x.i7
 b0:tU x.b0
 b1:tU x.b1
 b2:tU x.b2
 b3:tU x.b3
 b4:tU x.b4
def pg(x:tz)(a:Option Addr)(n c:Nat):List Value:=[.int .u8 x.kind,.int .i16 x.c0,.int .i16 x.c1,.int .i16 x.k0,.int .i16 x.k1,.int .i8 x.h0,.int .i8 x.h1,.int .i8 x.h2,.int .i8 x.h3,.int .i8 x.p0,.int .i8 x.p1,.int .i8 x.order,.int .i16 x.tg,.int .u8 x.gA,.int .u8 x.i6,.int .u8 x.i7,.int .i8 x.b0,.int .i8 x.b1,.int .i8 x.b2,.int .i8 x.b3,.int .i8 x.b4,.slice a n c]
abbrev Rf(x:tz)(a:Option Addr)(n c:Nat):Value:=.agg #[.int .u8 x.kind,.int .i16 x.c0,.int .i16 x.c1,.int .i16 x.k0,.int .i16 x.k1,.int .i8 x.h0,.int .i8 x.h1,.int .i8 x.h2,.int .i8 x.h3,.int .i8 x.p0,.int .i8 x.p1,.int .i8 x.order,.int .i16 x.tg,.int .u8 x.gA,.int .u8 x.i6,.int .u8 x.i7,.int .i8 x.b0,.int .i8 x.b1,.int .i8 x.b2,.int .i8 x.b3,.int .i8 x.b4,Z a n c]
def Rg:pB tz:=fun S w x cs=>∃a n c,cs=pg x a n c/\BR S w a n c x.fb/\x.In
def Sy:kR 22 Rg where
 len:=by rintro S w x cs ⟨a,n,c,rfl,_⟩;rfl
 kept:=by rintro S T w w' x cs ⟨a,n,c,e,h,r⟩ d f;exact⟨a,n,c,e,h.kept d f,r⟩
 one:=by rintro S w x cs ⟨a,n,c,rfl,_⟩ v b;unfold pg at b;simp only[aS,bi,cR]at b;obtain rfl|rfl|rfl|rfl|rfl|rfl|rfl|rfl|rfl|rfl|rfl|rfl|rfl|rfl|rfl|rfl|rfl|rfl|rfl|rfl|rfl|rfl:=b<;>rfl
def Bj(w:World)(g:Nat)(x:tz)(a:Option Addr)(n c:Nat):Prop:=w.heap[g]? =some (.cells (pg x a n c).toArray 99 (0,0))
def Bj.go{w w':World}{g:Nat}{x:tz}{a:Option Addr}{n c:Nat}(h:Bj w g x a n c)(hb:Below w w w'):Bj w' g x a n c:=(hb.block g (TK h)).trans h
def uC{w:World}{T:TypeId}{cs:Array Value}{ys:List Int}{k b:Nat}(hb:b=w.heap.size)(c:ys.length=1*k)(h:cs=(ys.map (Value.int .i64)).toArray):IRp (fun _=>True) (w.alloc (.cells cs T)) k (J b) 1 1 ys:=by
 subst h hb;refine⟨c,ag _,fun _=>⟨_,0,rfl,trivial,fun j d=>?_⟩⟩
 have a:j<ys.length:=by omega
 have:=VV (TL w (.cells (ys.map (Value.int .i64)).toArray T)) j;rw[aV,this];simp[ah,a]
def kB{zs ys:List Int}{j:Nat}(h:j<zs.length):(zs++ys).getD j 0=zs.getD j 0:=by
 rw[ah,aF h,ah]
def mb{zs ys:List Int}{m j:Nat}(h:zs.length=m):(zs++ys).getD (m+j) 0=ys.getD j 0:=by
 rw[ah,aY (by omega),ah,show m+j-zs.length=j by omega]
def Zf{zs:List Int}{i:Nat}{a p q:Int}(b:zs.length=i*3)(h:(List.range i).all (mP zs)=true)(hf:oH a p q=true):(List.range (i+1)).all (mP (zs++[a,p,q]))=true:=by
 rw[an];intro j c;have c:=aJ.1 c;by_cases e:j<i
 .have:=an.1 h j (aJ.2 e)
  unfold mP at*;rw[kB (by omega),kB (by omega),kB (by omega)];exact this
 .obtain rfl:j=i:=by omega
  unfold mP;have e0:=mb (ys:=[a,p,q]) (j:=0) b;rw[mb b,mb b,show(zs++[a,p,q]).getD (j*3) 0=[a,p,q].getD 0 0 from e0];exact hf
def HY(n:Int):List Int:=[13000000+50000*n,n.tmod 7,1+n.tmod 5]
def sI(fs:List Int)(i:Nat):List Int:=((List.range i).map fun j=>HY (fs.getD j 0)).flatten
def Dk(fs:List Int)(i:Nat):sI fs (i+1)=sI fs i++HY (fs.getD i 0):=by
 unfold sI;rw[bV,aT,cG];simp
def Nm(fs:List Int)(w:World)(e:Ending)(w':World):Prop:=
 ∃a n c zs,zs=sI fs (min 3 fs.length)/\e=.returned (.slice a n c)/\jN (fun b=>w.heap.size<=b/\b<w'.heap.size) w' a n c zs/\(a=none->c=0)/\n<=3/\(List.range n).all (mP zs)=true/\Below w w w'
def sJ{z:Int}(h:0<=z)(k:Int)(a:0<k):∃m,z.tmod k=m/\0<=m/\m<k:=⟨_,rfl,by rw[bu h];exact dq _ (by omega),by rw[bu h];exact da _ a⟩
def KN(x:tz)(a:Option Addr)(n c:Nat)(w:World)(hf:BR (fun b=>b<w.heap.size) w a n c x.fb):
 Calls prog 49 #[Rf x a n c] w (Nm x.fb w):=by
 have y:=O (hf.1);have Hf:=O hf;clear hf;have A:=O (show Bj (w.alloc (.cells (pg x a n c).toArray 99)) w x a n c from TL w _);have t:=O ((TH w w).alloc (ag _) (.cells (pg x a n c).toArray 99));go_enter func49,ntmps49;go_upto_region 1 with fail;refine gI (fun wx=>Bj wx w x a n c/\Below w w wx) ⟨A,t⟩ ?_;clear A t;rintro w1 ⟨l,hb⟩;have X:=TK l;have r:=O l;have u:=O hb;clear l hb;go_wp2
 go_loopw [3,4] (fun v L wr=>∃(i:Nat)(zs:List Int),i<=3/\i<=n/\zs=sI x.fb i/\L=.int .i64 (i:Int)/\wr.ownsRow (w+1) 60 3 v i (zs.map (Value.int .i64))/\(List.range i).all (mP zs)=true/\Bj wr w x a n c/\Below w w wr) (fun _ L _=>3-(intOf L).toNat)
 case atStart=>exact⟨0,[],by omega,by omega,rfl,rfl,⟨rfl,VR ⟨rfl,rfl⟩⟩,rfl,r,u⟩
 case round=>
  clear r u X;obtain⟨i,zs,hi,a0,E,rfl,K,hz,l,hb⟩:=hrel;have q:=O E;clear E;have a2:wr.cell? ⟨w.heap.size,21,none⟩=some (.slice a n c):=(VV l 21).trans rfl;have X:=TK l;have k:=K.1;rw[aU]at k;have m:=O K;have H:=O hz;have r:=O l;have p:=O hb;have s:=O k;clear K hz l hb k;by_cases W:i<n
  .by_cases a7:i<3
   .obtain⟨b1,off,rfl,hlt,x0,D,a8⟩:=(Hf.kept (gE p) (fun b h=>h)).2.2 i W
    have P:=O (Dk x.fb i);generalize x.fb.getD i 0=z at*;obtain⟨N,e7,a5,a6⟩:=sJ D 7 (by omega);obtain⟨M,e5,a3,a4⟩:=sJ D 5 (by omega);have a1:b1<wr.heap.size:=eb hlt p.size
    have B:w.heap.size+1<=wr.heap.size:=by omega
    go_wp2_with(refine je underlying56 Tryz.infoFilm3 rfl (by omega) (by omega) rfl (.tmp 23) (.tmp 33) rfl (w+1) _ i zs rfl (m.alloc _) (fun _=>True) _ 1 1 [13000000+50000*z,N,1+M] rfl (uC rfl rfl rfl) (fun e=>by cases e) (by omega) (by simp;omega) ?_;intro v' w4 j d;have o:=O j;have f:=O d;clear j d)
    have d:=f.out;have S:=(jI (base:=w.heap.size+1) m d (b:=w.heap.size) (by omega) B).trans r;have T:=jF p m d (by omega) B
    have F:zs++[13000000+50000*z,N,1+M]=sI x.fb (i+1):=by rw[P,q];unfold HY;rw[e7,e5]
    have R:=O F;clear F
    have C:oH (13000000+50000*z) N (1+M)=true:=by simp[oH,jr];omega
    have E1:=O S;have E3:=O T;have Q:=O C;clear S T C d f
    go_roundw
    case rel=>exact⟨i+1,_,by omega,by omega,R,by go_num,o,Zf s H Q,E1,E3⟩
    case measure=>simp[intOf];omega
   .go_wp2
    go_ret;obtain⟨a',c',rfl,h1,h2⟩:=lc m;exact⟨a',i,c',zs,by rw[q,y];congr 1;omega,rfl,jN.own m (fun g h1 h2=>⟨by omega,h2⟩),h1,by omega,H,p⟩
  .go_wp2
   go_ret;obtain⟨a',c',rfl,h1,h2⟩:=lc m;exact⟨a',i,c',zs,by rw[q,y];congr 1;omega,rfl,jN.own m (fun g h1 h2=>⟨by omega,h2⟩),h1,by omega,H,p⟩
structure QL (N:Nat) (w:World) (s:Bool) (a:Option Addr) (n c:Nat) (b:Option Addr) (m d:Nat) (r:Rat):Prop where
 n:LG N w s a n c r.num
 d:LG N w false b m d ((r.den:Nat):Int)
def QL.go{w w':World}{s:Bool}{a:Option Addr}{n c:Nat}{b:Option Addr}{m d:Nat}{r:Rat}(h:QL w w s a n c b m d r)(hb:Below w w w'):QL w' w' s a n c b m d r:=⟨h.n.go hb,h.d.go hb⟩
def Sz(k:Nat)(r:Rat):Prop:=r.num.natAbs<1000000000^k/\r.den<1000000000^k
def Sz.den{k:Nat}{r:Rat}(h:Sz k r):(ip r.den).length<=k:=iB h.2
def QL.m{N:Nat}{w:World}{s:Bool}{a:Option Addr}{n c:Nat}{b:Option Addr}{m d:Nat}{r:Rat}(h:QL N w s a n c b m d r){k:Nat}(e:Sz k r):m<=k:=by
 have:=mW h.d;rw[aB]at this;have:=e.den;omega
def mF(r:Rat)(s:Bool)(a b:Option Addr)(n m c d:Nat)(w:World)(h:QL w w s a n c b m d r)(hm:m<=599):
 Calls prog 133 #[.agg #[s,Z a n c,false,Z b m d]] w (iZ w (.bool true)):=by
 have y:=O ((TH w w).alloc (ag _) (.cells #[s,Z a n c,false,Z b m d] 180));have j:=O (show pO (w.alloc (.cells #[s,Z a n c,false,Z b m d] 180)) w s a n c false b m d from TL w _)
 have a0:0<m:=by
  have:=mW h.d;rw[aB]at this
  obtain e|e:=cM m
  .rw[e]at this
   exact absurd (jC.1 this.symm) r.den_nz
  .exact e
 obtain⟨f,K⟩:∃f,Nat.gcd r.num.natAbs ((r.den:Nat):Int).natAbs=f:=⟨_,rfl⟩
 have B:(f:Int)=1:=by rw[<- K];exact ai Int.ofNat r.reduced
 have M:=O B;clear B;have H:=O h;have T:=O K;clear h K;go_enter func133,ntmps133;go_upto_region 1 with fail;refine jp (fun S=>pO S w s a n c false b m d/\Below w w S) ⟨j,y⟩ ?_;clear j y;rintro w1 ⟨L,hb⟩;obtain⟨c0,c1,c2,c3⟩:=gL L;have v:=O hb;have j:=O L;clear hb L;go_wp2_with fail;refine(rN s r.num a n c _ (by exact H.n.go v)).mono ?_;rintro e w2 ⟨rfl,o⟩;have t:=(o.block w (TK j)).trans j;obtain⟨d0,d1,d2,d3⟩:=gL t;have i:=O (v.trans (o.mono v.size));have l:=O t;clear o t c0 c1 c2 c3 j v;go_wp2_with fail;refine(rN false ((r.den:Nat):Int) b m d _ (by exact H.d.go i)).mono ?_;rintro e w3 ⟨rfl,p⟩;have u:=(p.block w (TK l)).trans l;obtain⟨e0,e1,e2,e3⟩:=gL u;have g:=O (i.trans (p.mono i.size));have Q:=O u;clear p u d0 d1 d2 d3 l i;go_wp2_with fail;refine(vb s false r.num ((r.den:Nat):Int) a b n m c d _ (by exact H.n.go g) (by exact H.d.go g) hm f T).mono ?_;rintro e w4 ⟨s4,W,n4,c4,rfl,E,C,_⟩;have A:=O E;have k:=O (g.trans (C.mono g.size));clear E C e0 e1 e2 e3 g Q;go_wp2_with fail;refine(oT 1 _ (by omega) (by omega)).mono ?_;rintro e w5 ⟨s5,X,n5,c5,rfl,F,q,_⟩;have P:=O F;have x:=O (A.go q);have z:=O (k.trans (q.mono k.size));clear F q A k;go_wp2_with fail;refine(EB s4 s5 (f:Int) 1 W X n4 n5 c4 c5 _ (by exact x) (by exact P)).mono ?_;rintro e w6 ⟨R,D⟩;rw[aP M.out]at R;subst R;have N:=O (z.trans (D.mono z.size));clear D;go_wp2;go_ret;exact⟨rfl,N⟩
def rP(z:Int):Bool:=decide (-9223372036854775808<=z/\z<=9223372036854775807)
def Re(w:World)(z:Int)(a:Ending)(w':World):Prop:=a=.returned (.tuple #[.int .i64 (if rP z then z else 0),.int .i64 (if rP z then 0 else 6)])/\Below w w w'
def PD{x y:Int}:decide (oG x y<0)=decide (x<y):=by
 unfold oG;by_cases h:x<y
 .simp[h]
 .rw[aj h,aw h]
  by_cases h2:y<x<;>simp[h2]
def PE{x y:Int}:decide (0<oG x y)=decide (y<x):=by
 unfold oG;by_cases h:x<y
 .rw[aq h,aw (by omega:¬y<x)];rfl
 .rw[aj h]
  by_cases h2:y<x<;>simp[h2]
def zL(s:Bool)(u k:Nat):Int:=if s then -((u/1000000000^k:Nat):Int)else((u/1000000000^k:Nat):Int)
def Nl(s:Bool)(u:Nat):zL s u (ip u).length=0:=by
 unfold zL;rw[eO (Wu u)];cases s<;>rfl
def KM(u j:Nat):u/1000000000^j=u/1000000000^(j+1)*1000000000+u/1000000000^j%1000000000:=by
 rw[bM,<- eX];have:=dc (u/1000000000^j) 1000000000;omega
def zM(s:Bool)(z:Int)(a:Option Addr)(n c:Nat)(w:World)(h:LG w w s a n c z):
 Calls prog 97 #[.agg #[s,Z a n c]] w (Re w z):=by
 have x:=O (TL w (.cells #[s,Z a n c] 178));have a6:Below w w (w.alloc (.cells #[s,Z a n c] 178)):=(TH _ _).alloc (ag _) _;have r:=O (h.go a6);have Hs:=O h.1;have W:=O a6;clear h a6;go_enter func97,ntmps97;go_wp2_with fail;refine(rN s z a n c _ r).mono ?_;rintro e w1 ⟨rfl,L⟩;have Q:=r.go L;have a1:=O ((L.block w (by simp)).trans x);have E:=O Q;have X:=O (W.trans (L.mono W.size));clear Q L;go_wp2_with fail;refine(oT (-9223372036854775808) _ (by omega) (by omega)).mono ?_;rintro e w2 ⟨s2,a2,R,c2,rfl,b6,M,-⟩;have F:=O (E.go M);have K:=O ((M.block w (TK a1)).trans a1);have b2:=O b6;have a0:=O (X.trans (M.mono X.size));clear b6 M;go_wp2_with fail;refine(oT 9223372036854775807 _ (by omega) (by omega)).mono ?_;rintro e y ⟨T,a3,S,c3,rfl,b7,N,-⟩;have l:=N.trans ((iH (w:=y) (.cells #[s2,Z a2 R c2] 178) (.cells #[T,Z a3 S c3] 178)).mono N.size);have t:=O (F.go l);have B:=O (b2.go l);have C:=O (b7.go (iH (w:=y) (.cells #[s2,Z a2 R c2] 178) (.cells #[T,Z a3 S c3] 178)));obtain⟨e4,e5⟩:=iN y (.cells #[s2,Z a2 R c2] 178) (.cells #[T,Z a3 S c3] 178);have a4:=O (a0.trans (l.mono a0.size));have b1:=O (show w.heap.size<y.heap.size from eb (TK K) N.size);have m:((y.alloc (.cells #[s2,Z a2 R c2] 178)).alloc (.cells #[T,Z a3 S c3] 178)).heap[w.heap.size]? =some (.cells #[s,Z a n c] 178 (0,0)):=(l.block w (TK K)).trans K;obtain⟨p1,p2,-,-⟩:=gQ m;obtain⟨p3,p4,-,-⟩:=gQ e4;obtain⟨p5,p6,-,-⟩:=gQ e5;have q:=O m;have E5:=O e5;clear m l b7 N e4 e5 F K b2 a0 E a1 X r W x;go_wp2_with fail;refine(uy s s2 z (-9223372036854775808) a a2 n R c c2 _ t B).mono ?_;rintro e w4 ⟨rfl,p⟩;have a7:=(p.block w (by have:=b1.out;simp;omega)).trans q;have b4:=(p.block (y+1) (by simp)).trans E5;obtain⟨q1,q2,-,-⟩:=gQ a7;obtain⟨q5,q6,-,-⟩:=gQ b4;have u:=O (t.go p);have b0:=O (C.go p);have a5:=O (a4.trans (p.mono a4.size));have c5:=O a7;have c4:=O (eb (show w.heap.size<((y.alloc (.cells #[s2,Z a2 R c2] 178)).alloc (.cells #[T,Z a3 S c3] 178)).heap.size by have:=b1.out;simp;omega) p.size);clear p a7 b4 p1 p2 p3 p4 p5 p6 t B C a4 q;have b9:=@PD z (-9223372036854775808);by_cases g:z< -9223372036854775808
 .rw[aP g]at b9
  have o:=O g;clear g;go_wp2;go_ret2;have hf:rP z=false:=aw (by have:=o.out;omega);refine⟨?_,a5⟩;rw[hf];rfl
 .rw[aw g]at b9
  have o:=O g;clear g;go_wp2_with fail;refine(uy s T z 9223372036854775807 a a3 n S c c3 _ u b0).mono ?_;rintro e w5 ⟨rfl,P⟩;have b5:=(P.block w c4).trans c5;obtain⟨r1,r2,-,-⟩:=gQ b5;have b3:=O (a5.trans (P.mono a5.size));have H:=O ((u.go P).2.1);clear P b5 q1 q2 q5 q6;have c0:=@PE z 9223372036854775807;by_cases d:9223372036854775807<z
  .rw[aP d]at c0
   have f:=O d;clear d;go_wp2;go_ret2;have hf:rP z=false:=aw (by have:=f.out;omega);refine⟨?_,b3⟩;rw[hf];rfl
  .rw[aw d]at c0
   have hf:rP z=true:=aP (by have:=o.out;omega);have f:=O d;clear d;have c6:=O (H.len);have d0:=u.2.2;have Hf:=O hf;clear hf;go_wp2
   go_loop [6,7] (fun v i=>∃k:Nat,k<=n/\i=.int .i64 ((k:Int)-1)/\v=.int .i64 (zL s z.natAbs k)) (fun _ i=>(intOf i+1).toNat)
   case atStart=>exact⟨n,ag _,rfl,by rw[c6,Nl]⟩
   case round=>
    obtain⟨k,hk,rfl,rfl⟩:=hrel;by_cases c8:k=0
    .subst c8
     rw[show((0:Nat):Int)-1= -1 from rfl]
     have hv:zL s z.natAbs 0=z:=by
      unfold zL;rw[dT,Nat.div_one,Hs]
      by_cases h:z<0<;>simp[h] <;>omega
     rw[hv];clear hv;go_wp2;go_ret2;refine⟨?_,b3⟩;rw[Hf];rfl
    .obtain⟨j,rfl⟩:∃j,k=j+1:=⟨k-1,by omega⟩
     rw[show((j+1:Nat):Int)-1=(j:Int)by omega];obtain⟨b,off,rfl,hb,hc⟩:=H.at (by omega:0<n);have c7:=hc j (by omega);rw[Ca]at c7;have b8:=KM z.natAbs j;have c9:z.natAbs/1000000000^j<=z.natAbs:=dp _ _
     have d1:z.natAbs<=9223372036854775808:=by have:=o.out;have:=f.out;omega
     have a9:s=false->z.natAbs<=9223372036854775807:=by
      intro hs;have:=Hs.out;have:=f.out;subst hs;have:=of_decide_eq_false this.symm;omega
     have c1:zL s z.natAbs (j+1)=if s then -((z.natAbs/1000000000^(j+1):Nat):Int)else((z.natAbs/1000000000^(j+1):Nat):Int):=rfl
     have a8:zL s z.natAbs j=if s then -((z.natAbs/1000000000^j:Nat):Int)else((z.natAbs/1000000000^j:Nat):Int):=rfl
     rw[c1];clear c1 hc;generalize z.natAbs/1000000000^j%1000000000=D at*;generalize z.natAbs/1000000000^(j+1)=A at*;rw[b8]at a8 c9;have x:=O a8;clear a8 b8 hb
     cases s with
     |false=>
      have d2:=a9 rfl
      have hA:(A:Int)*1000000000+D<=9223372036854775807:=by omega
      clear a9;simp only[bC,de];go_wp2
      go_round
      case rel=>
       refine⟨j,by omega,rfl,?_⟩;rw[x];simp only[bC,de];rw[et,bW];rfl
      case measure=>simp[intOf]
     |true=>
      have hA:(A:Int)*1000000000+D<=9223372036854775808:=by omega
      clear a9;simp only[bX];go_wp2
      go_round
      case rel=>
       refine⟨j,by omega,rfl,?_⟩;rw[x];simp only[bX];congr 1;omega
      case measure=>simp[intOf]
def Fi(l:List UInt8)(d:Nat):Int:=match li l with
 |none=>0
 |some p=>if p<=d/\rP (wg l*10^(d-p))=true then wg l*10^(d-p)else 0
def Fj(l:List UInt8)(d:Nat):Int:=match li l with
 |none=>5
 |some p=>if p<=d then(if rP (wg l*10^(d-p))=true then 0 else 6)else 5
def Ta:Nat:=5000
attribute [irreducible] Ta
def Rx(w:World)(l:List UInt8)(d:Nat)(a:Ending)(w':World):Prop:=a=.returned (.tuple #[.int .i64 (Fi l d),.int .i64 (Fj l d)])/\Below w w w'
structure GW (w:World):Prop where
 m:∃m,w.cell? (J 5)=some (.int .i64 m)
 tab:Lib.TabIs prog w "internal/strconv.uint64pow10" .u64 Lib.pow10Tab
 rng:∃tp p,w.var? prog "strconv.ErrRange" =some #[.iface tp p]
 sz:14<=w.heap.size
def Tryz.gnTab:((prog.globalNamed "internal/strconv.uint64pow10").any fun g=>decide (g<14))=true:=by kernel_rfl
def Tryz.gnRng:((prog.globalNamed "strconv.ErrRange").any fun g=>decide (g<14))=true:=by kernel_rfl
def Fk{w w':World}(nm:String)(a:((prog.globalNamed nm).any fun g=>decide (g<14))=true)(h:∀b,b<14->w'.heap[b]? =w.heap[b]?):w'.var? prog nm=w.var? prog nm:=by
 unfold World.var?
 cases hn:prog.globalNamed nm with
 |none=>rfl
 |some g=>
  rw[hn]at a;simp only[eZ,aD]at a;simp only[aO,h g a]
def GW.kept{w w':World}(h:GW w)(hb:∀b,b<14->w'.heap[b]? =w.heap[b]?)(e:14<=w'.heap.size):GW w':=by
 obtain⟨⟨m,c⟩,a,⟨f,p,d⟩,_⟩:=h;refine⟨⟨m,?_⟩,?_,⟨f,p,?_⟩,e⟩
 .rw[<- c];simp only[World.cell?,hb 5 (by omega)]
 .unfold Lib.TabIs at a⊢;rw[Fk _ Tryz.gnTab hb];exact a
 .rw[Fk _ Tryz.gnRng hb];exact d
def GW.below{w w':World}(h:GW w)(hb:Below w w w'):GW w':=h.kept (fun b hlt=>hb.block b (eb hlt h.sz)) (af h.sz hb.size)
def GW.of{B:Nat}{w w':World}(h:GW w)(hb:Below B w w')(a:14<=B):GW w':=h.kept (fun b hlt=>hb.block b (by omega)) (af h.sz hb.size)
def lE(l:List UInt8):(bs l).size=l.length:=rfl
def tX(l p:List UInt8)(w:World):Calls prog 109 #[.string (bs l),.string (bs p)] w fun e w'=>e=.returned (.string (bs (Lib.trimPrefix l p)))/\w=w':=
 (Tryz.strings_TrimPrefix (bs l) (bs p) w).mono fun _ _ ⟨h1,h2⟩=>⟨h1,h2.symm⟩
def Bl(l:List UInt8)(c:UInt8)(w:World)(a:c.toNat<128)(b:l.length<=1000000):Calls prog 112 #[.string (bs l),.string ⟨#[c]⟩] w fun e w'=>e=.returned (.string (bs (Lib.trimRightB l c)))/\w=w':=
 (Tryz.strings_TrimRight_one (bs l) c a w (by rw[lE];omega)).mono fun _ _ ⟨h1,h2⟩=>⟨h1,h2.symm⟩
def zY(l:List UInt8)(c:Nat)(w:World)(a:c<=1000000)(b:l.length<=1000000):Calls prog 110 #[.string (bs l),.int .i64 (c:Int)] w (iZ w (.string (bs (Lib.repeatL l c)))):=
 (Tryz.strings_Repeat (bs l) c w (by omega) (by rw[lE];exact af (cB b a) (by omega)))
def Ny(n:Int)(w:World)(h0: -9223372036854775808<=n)(h1:n<=9223372036854775807)(a:GW w):Calls prog 74 #[n] w (iZ w (.string (bs (Lib.itoa n)))):=by
 refine(Tryz.strconv_Itoa n h0 h1 w a.tab).mono ?_;rintro e w' ⟨rfl,k,os,rfl⟩;exact⟨rfl,Lib.below_grow _ _ (ag _) k os⟩
def zF(s t:Bool)(a b:Option Addr)(n m c d:Nat)(w:World)(x:n<=600)(u:m<=600):
 Calls prog 184 #[.agg #[s,Z a n c,t,Z b m d]] w (iZ w (.tuple #[.agg #[s,Z a n c,t,Z b m d],oZ])):=by
 obtain⟨i:HQ _,I1:HQ _⟩:=iN w (.cells #[s,Z a n c,t,Z b m d] 180) (.cells #[false,oN,false,oN] 180);have f:=O (iH (w:=w) (.cells #[s,Z a n c,t,Z b m d] 180) (.cells #[false,oN,false,oN] 180));go_enter func184,ntmps184;go_upto_region 1 with fail;refine jp (fun h=>pO h w s a n c t b m d/\pO h (w+1) false none 0 0 false none 0 0/\Below w w h) ⟨i,I1,f⟩ ?_;clear i I1 f;rintro y ⟨h0,e:HQ _,f:HQ _⟩;obtain⟨c0,c1,c2,c3⟩:=gL h0;obtain⟨l,o,p,q⟩:=gL e;have f0:=gD e 0;have f1:=gD e 1;have r:=gD e 2;have f3:=gD e 3;clear h0;go_wp2_with fail;have g:=kl (s':=s) (a':=a) (n':=n) (c':=c) (t':=t) (b':=b) (m':=m) (d':=d) e;obtain⟨k0,k1,j,k⟩:=gL g;refine ar (v:=.tuple #[.agg #[s,Z a n c,t,Z b m d],oZ]) ?_ rfl ?_
 .simp[results,results184,go_sem,k0,k1,j,k]
 .exact⟨rfl,iR f (by omega)⟩
def M0{k l:Nat}{r s:Rat}(h1:Sz k r)(h2:Sz l s):(r.num*s.num).natAbs<1000000000^(k+l)/\r.den*s.den<1000000000^(k+l):=by
 rw[eG,dm];exact⟨cU h1.1 h2.1,cU h1.2 h2.2⟩
def GU(r s:Rat):mkRat (r.num*s.num) (r.den*s.den)=r*s:=by
 rw[Rat.mul_def,fX,eJ (Nat.mul_ne_zero r.den_nz s.den_nz)]
def KD(g h:Rat)(k1 N:Nat)(s t:Bool)(a b a' b':Option Addr)(n m c d n' m' c' d':Nat)(w:World)(h1:QL w w s a n c b m d g)(h2:QL w w t a' n' c' b' m' d' h)(z1:Sz k1 g)(z2:Sz N h)(hk:k1+N<=599):
 Calls prog 185 #[.agg #[s,Z a n c,false,Z b m d],.agg #[t,Z a' n' c',false,Z b' m' d']] w (GO w (g*h)):=by
 obtain⟨zn,zd⟩:=M0 z1 z2;have a8:=O (show(ip (g.num*h.num).natAbs).length<=599 from af (iB zn) hk);have a5:=O (show(ip (g.den*h.den)).length<=599 from af (iB zd) hk);have b1:0<g.den*h.den:=dZ (bq g.den_nz) (bq h.den_nz);have a9:=O (GU g h);generalize g*h=R at*;obtain⟨i0,i1,i2⟩:=jh w (.cells #[s,Z a n c,false,Z b m d] 180) (.cells #[t,Z a' n' c',false,Z b' m' d'] 180) (.cells #[false,oN,false,oN] 180);have o:=O (oF w (.cells #[s,Z a n c,false,Z b m d] 180) (.cells #[t,Z a' n' c',false,Z b' m' d'] 180) (.cells #[false,oN,false,oN] 180));have I0:=O i0;have I1:=O i1;have I2:=O i2;have W:=O h1;have X:=O h2;clear i0 i1 i2 h1 h2 zn zd;go_enter func185,ntmps185;go_upto_region 1 with fail;refine jp (fun T=>pO T w s a n c false b m d/\pO T (w+1) t a' n' c' false b' m' d'/\pO T (w+2) false none 0 0 false none 0 0/\Below w w T) ⟨I0,I1,I2,o⟩ ?_;clear I0 I1 I2 o;rintro w1 ⟨h0,h1,h2,hb⟩;have P:=TK h0;have l1:=TK h1;have l2:=TK h2;obtain⟨c0,c1,c2,c3⟩:=gL h0;obtain⟨e0,e1,e2,e3⟩:=gL h1;have E:=O h2;have o:=O hb;clear h0 h1 h2 hb;refine gS 11 [(0,true),(1,true),(2,true),(3,true),(5,true),(6,true),(7,true),(8,true),(4,false),(9,false),(10,false)] (by kernel_rfl) (by kernel_rfl) ?_
 iterate 8
  refine gU (v:=?_) ?_ ?_;rotate_left
  .intro y q
   have x0:=(q.cell (p:=J (w.heap.size)) P).trans c0;have x1:=(q.cell (p:=⟨w.heap.size,1,none⟩) P).trans c1;have x2:=(q.cell (p:=⟨w.heap.size,2,none⟩) P).trans c2;have x3:=(q.cell (p:=⟨w.heap.size,3,none⟩) P).trans c3;have y0:=(q.cell (p:=J (w+1)) l1).trans e0;have y1:=(q.cell (p:=⟨w.heap.size+1,1,none⟩) l1).trans e1;have y2:=(q.cell (p:=⟨w.heap.size+1,2,none⟩) l1).trans e2;have y3:=(q.cell (p:=⟨w.heap.size+1,3,none⟩) l1).trans e3;go_simp;with_reducible rfl
  try simp only[V]
 clear c0 c1 c2 c3 e0 e1 e2 e3;refine gP (fun z i=>?_);go_simp;refine(qA s t g.num h.num a a' n n' c c' w1.drew (by exact W.n.go (oP o)) (by exact X.n.go (oP o)) (by have:=a8.out;omega)).mono ?_;rintro e w2 ⟨s2,a2,n2,c2,rfl,a6,A,f2⟩;refine i _ _ A ?_;clear i z;have f:=O (show Below w1 w1 w2 from gJ (k:=1) A);have a0:=O a6;have F2:=O f2;clear a6 A f2;(try simp only[V]);refine gP (fun z i=>?_);go_simp;refine(qA false false ((g.den:Nat):Int) ((h.den:Nat):Int) b b' m m' d d' w2 (by exact(W.d.go o).go f) (by exact(X.d.go o).go f) (by rw[<- bW,aB];have:=a5.out;omega)).mono ?_;rintro e w3 ⟨s3,a3,n3,c3,rfl,u,r,f3⟩;refine i _ _ r ?_;clear i z;rw[<- bW]at u
 have b2:s3=false:=by rw[u.1];exact aw (Int.not_lt.2 (dP _))
 subst b2;have H:=O (a0.go r);have a1:=O u;have j:=O (f.trans (r.mono f.size));have M:=f.size;have F3:=O (f3.mono M);clear u r f3 a0 f;(try simp only[V]);refine gP (fun z i=>?_);go_simp;refine(sD s2 (g.num*h.num) (g.den*h.den) a2 a3 n2 n3 c2 c3 w3 (by exact H) (by exact a1) b1 (by have:=mW a1;rw[aB]at this;have:=a5.out;omega)).mono ?_;rintro e w4 ⟨s4,K,S,c4,b4,Q,d4,rfl,D,C,B,f4,g4⟩;refine i _ _ B ?_;clear i z;rw[a9]at D C;have l:=j.trans (B.mono j.size);have h2:=(l.block _ l2).trans E;have x:=j.size;have F4:=O (f4.mono x);have G4:=O (g4.mono x);have b0:=O D;have a7:=O C;have F:=O l;clear D C B l f4 g4 E;obtain⟨d0,d1,d2,d3⟩:=gL h2;have f0:=gD h2 0;have f1:=gD h2 1;have f2:=gD h2 2;have f3:=gD h2 3;have E:=O h2;clear h2;(try simp only[V]);refine iu rfl ?_;go_wp2_with fail;have L:=kl (s':=s4) (a':=K) (n':=S) (c':=c4) (t':=false) (b':=b4) (m':=Q) (d':=d4) E;obtain⟨k0,k1,N,k3⟩:=gL L;refine ar (v:=.agg #[s4,Z K S c4,false,Z b4 Q d4]) ?_ rfl ?_
 .simp[results,results185,go_sem,k0,k1,N,k3]
 .have o4:mx w (w+3) K S:=mx.ofFresh (F4.mono (by omega))
  have o5:mx w (w+3) b4 Q:=mx.ofFresh (G4.mono (by omega));exact⟨s4,K,S,c4,b4,Q,d4,rfl,qY b0 o4 (show w.heap.size<=w.heap.size+2 by omega) (by omega),qY a7 o5 (show w.heap.size<=w.heap.size+2 by omega) (by omega),iR (o.trans (F.mono (by omega))) (by omega),F4.mono (by omega),G4.mono (by omega)⟩
def Py(xs ys zs:List Int)(i:Nat)(a:Int):Prop:=
 zs.length=i/\ms zs/\val zs=val (xs.take i)-val (ys.take i)+a*1000000000^i/\0<=a/\a<=1
def Py.less{xs ys zs:List Int}{i:Nat}{c:Int}(h:Py xs ys zs i c)(d:ms xs)(e:ms ys)(g:xs.getD i 0-ys.getD i 0-c<0):
 Py xs ys (zs++[xs.getD i 0-ys.getD i 0-c+1000000000]) (i+1) 1:=by
 obtain⟨h1,h2,h3,f,h5⟩:=h;have a:=d.all i;have b:=e.all i;refine⟨by simp[h1],h2.append (ms.cons (by omega) ms.nil),?_,by omega,by omega⟩;rw[oD,h1,jn,jn,h3];simp only[val];generalize xs.getD i 0=x at*;generalize ys.getD i 0=y at*;rw[dF,fL];generalize(1000000000:Int)^i=p;rw[eh,eh,fM,fM,bN x p,bN y p,bN c p];omega
def Py.more{xs ys zs:List Int}{i:Nat}{c:Int}(h:Py xs ys zs i c)(d:ms xs)(e:ms ys)(g:0<=xs.getD i 0-ys.getD i 0-c):
 Py xs ys (zs++[xs.getD i 0-ys.getD i 0-c]) (i+1) 0:=by
 obtain⟨h1,h2,h3,f,h5⟩:=h;have a:=d.all i;have b:=e.all i;refine⟨by simp[h1],h2.append (ms.cons (by omega) ms.nil),?_,by omega,by omega⟩;rw[oD,h1,jn,jn,h3];simp only[val];generalize xs.getD i 0=x at*;generalize ys.getD i 0=y at*;rw[Int.zero_mul];generalize(1000000000:Int)^i=p;rw[eh,fM,fM,bN x p,bN y p,bN c p];omega
def Py.last{xs ys zs:List Int}{a:Int}(h:Py xs ys zs xs.length a)(c:ys.length<=xs.length)(d:val ys<=val xs):val zs=val xs-val ys:=by
 obtain⟨h1,h2,h3,e,h5⟩:=h;rw[bf,aM c]at h3;have b:=rZ h2;rw[h1]at b;by_cases hb:a=0
 .rw[hb]at h3;omega
 .have:a=1:=by omega
  rw[this,fL]at h3;omega
def ji(l:List (List UInt8)):List Value:=l.map fun s=>.string (bs s)
def Du(a b:List (List UInt8)):ji (a++b)=ji a++ji b:=aT
def xo(l:List (List UInt8)):(ji l).length=l.length:=aU _
def Tryz.infoStr:(prog.info? 9).map (fun i=>(i.zero,i.size,i.bytes))=some (some (.string {data:=#[]}),1,16):=by kernel_rfl
def tZ{w:World}{base:Nat}{a:Option Addr}{n c:Nat}{l:List (List UInt8)}(h:w.ownsRow base 9 1 (.slice a n c) n (ji l))(o:0<l.length):
 ∃g,a=some ⟨g,0,none⟩/\base<=g/\g<w.heap.size/\n=l.length/\n<=c/\ ∀(j:Nat) x,(l.map bs)[j]? =some x->w.cell? ⟨g,0+j,none⟩=some (.string x):=by
 have m:=h.1;rw[xo]at m
 rcases(mz h).2 with⟨e,h0⟩|⟨g,cap,e,k,f,b⟩
 .omega
 .cases e
  refine⟨g,rfl,k,b.lt,by omega,f,fun j x d=>?_⟩;rw[aR]at d
  cases hlj:l[j]? with
  |none=>rw[hlj]at d;cases d
  |some s=>
   rw[hlj]at d;cases d;have i:=(TG.1 hlj).1;rw[aV,b.cell (j:=j) (by rw[xo];exact i)];simp only[ji,List.getElem_map];rw[(TG.1 hlj).2]
def ua(w:World)(a:Option Addr)(n c:Nat)(ws:List (List UInt8))(B:Nat):Prop:=
 ws.length=n/\n<=c/\(0<n-> ∃g off,a=some ⟨g,off,none⟩/\g<B/\ ∀i x,ws[i]? =some x->w.cell? ⟨g,off+i,none⟩=some (.string (bs x)))
def ua.kept{w w':World}{a:Option Addr}{n c B b:Nat}{ws:List (List UInt8)}(h:ua w a n c ws B)(j:∀k,k<B->w'.heap[k]? =w.heap[k]?)(m:B<=b):ua w' a n c ws b:=by
 refine⟨h.1,h.2.1,fun h0=>?_⟩;obtain⟨g,off,e,f,d⟩:=h.2.2 h0;refine⟨g,off,e,by omega,fun i x l=>?_⟩;rw[<- d i x l];simp only[World.cell?,j g f]
def uE:∀(l u:List UInt8),∀s∈iA u l,s≠[]
 |[],u,s,h=>by
  rw[iA]at h;split at h
  .cases h
  .rw[aK]at h;subst h;assumption
 |b::l,u,s,h=>by
  rw[iA]at h;split at h
  .split at h
   .exact uE l _ s h
   .obtain rfl|h:=aS.1 h
    .assumption
    .exact uE l _ s h
  .exact uE l _ s h
def sN:∀(l u:List UInt8),∀s∈iA u l,s.length<=u.length+l.length
 |[],u,s,h=>by
  rw[iA]at h;split at h
  .cases h
  .rw[aK]at h;subst h;simp
 |b::l,u,s,h=>by
  rw[iA]at h;rw[aH];split at h
  .split at h
   .have:=sN l _ s h;simp at this;omega
   .obtain rfl|h:=aS.1 h
    .omega
    .have:=sN l _ s h;simp at this;omega
  .have:=sN l _ s h;simp at this;omega
def pH:∀(l u:List UInt8),(iA u l).length<=l.length+1
 |[],u=>by
  rw[iA];split<;>simp
 |b::l,u=>by
  rw[iA,aH];split
  .split
   .have:=pH l [];omega
   .have:=pH l [];rw[aH];omega
  .have:=pH l (u++[b]);omega
def uF:∀(l u:List UInt8),∀s∈io u l,s.length<=u.length+l.length
 |[],u,s,h=>by
  rw[io,aK]at h;subst h;simp
 |b::l,u,s,h=>by
  rw[io]at h;rw[aH];split at h
  .obtain rfl|h:=aS.1 h
   .omega
   .have:=uF l _ s h;simp at this;omega
  .have:=uF l _ s h;simp at this;omega
def qI:∀(l u:List UInt8),(io u l).length<=l.length+1
 |[],u=>by simp[io]
 |b::l,u=>by
  rw[io,aH];split
  .have:=qI l [];rw[aH];omega
  .have:=qI l (u++[b]);omega
def Iq(l:List UInt8)(w:World)(a:GW w)(c:l.length<=1000000):Calls prog 118 #[.string (bs l),.string (bs [10])] w fun e w'=>
 e=.returned (.slice (J (w.heap.size)) (io [] l).length (io [] l).length)/\w'=w.alloc (.cells (ji (io [] l)).toArray 9):=by
 obtain⟨m,b⟩:=a.m;refine(Tryz.strings_Split (bs l) (bs [10]) m w (by rw[lE];omega) b (by decide)).mono ?_;rintro e w' ⟨rfl,rfl⟩;have h1:=Dr l;have h2:=xX l.length l (ag _);rw[h1,show Lib.countB (bs l) (bs [10])=Lib.count l [10]from rfl,<- h2,dD];exact⟨rfl,rfl⟩
def Fo(x:Nat)(w:World)(d:x<=1114111):Calls prog 120 #[.int .i32 (x:Int)] w fun e w'=>e=.returned (.bool (Fm x))/\w=w':=by
 by_cases h1:x=32
 .subst h1
  go_enter func120,ntmps120;go_wp2;go_ret;exact⟨rfl,rfl⟩
 .have c:((x:Int)==32)=false:=by rw[ak];omega
  have a:Fm x=false:=by unfold Fm;rw[ak];exact h1
  have b:=O a;clear a h1;go_enter func120,ntmps120;go_wp2;go_ret;exact⟨by rw[b];rfl,rfl⟩
def Ir(l:List UInt8)(w:World)(k:l.length<=1000000):Calls prog 119 #[.string (bs l),.func (.func 120) #[] #[]] w fun e w'=>
 ∃A,e=.returned (.slice (J A) (iA [] l).length (iA [] l).length)/\ua w' (J A) (iA [] l).length (iA [] l).length (iA [] l) w'/\Below w w w':=by
 refine(Tryz.strings_FieldsFunc_grows 120 #[] (fun args w=>by kernel_rfl) Fm (bs l) w (by rw[lE];omega) ?_).mono ?_
 .intro W x b _
  exact(Fo x W b).mono fun e w' h=>⟨h.1,h.2▸TH _ _⟩
 .rintro e w' ⟨A,rfl,j,a,hb⟩
  rw[Bm,aU,dD]at*;refine⟨A,rfl,⟨rfl,ag _,fun h0=>?_⟩,hb⟩;obtain⟨g,c,-,d,-,-,f⟩:=tZ (l:=iA [] l) a h0;cases c;refine⟨A,0,rfl,d,fun i x b=>?_⟩;have:=f i (bs x) (by rw[aR,b];rfl);exact this
def nN:List (List UInt8)->List UInt8
 |[]=>[]
 |[x]=>x
 |x::y::l=>x++32::nN (y::l)
def zZ:∀(l:List (List UInt8)),Lib.join l [32]=nN l
 |[]=>rfl
 |[x]=>by rw[Lib.join_one];rfl
 |x::y::l=>by
  have h:=zZ (y::l);rw[Lib.join_cons]at h;rw[Lib.join_cons,nN,<- h];simp[Lib.joinTail]
def PQ(n:Int):Lib.itoa n=De n:=by
 unfold Lib.itoa De;by_cases h:n<0
 .rw[aq h,aq h];rfl
 .rw[aj h,aj h,show n.toNat=n.natAbs by omega];rfl
def Bn(l:List UInt8):Lib.trimRightB l 48=mQ l:=rfl
def Af(c:Nat):Lib.repeatL [48] c=List.replicate c 48:=by
 induction c with
 |zero=>rfl
 |succ c a=>rw[Lib.repeatL,a];rfl
def sR(l:List UInt8)(a b:Nat):(bs l).extract a b=bs ((l.drop a).take (b-a)):=by
 apply fj;apply fU;simp[VU,List.take_drop]
def Ag(z:List UInt8)(k:Nat):List UInt8:=z.take k++(if mQ (z.drop k)=[]then[]else 46::mQ (z.drop k))
def Dw(z:List UInt8)(k g:Nat)(w:World)(l:w.cell? (J g)=some (.string (bs z)))(m:k<=z.length)(n:z.length<=1000000):
 Calls prog 111 #[.int .i64 (k:Int),U g] w fun e w'=>e=.returned (.string (bs (Ag z k)))/\w=w':=by
 have h:(bs z).size=z.length:=rfl;go_enter func111,ntmps111
 have i:(bs z).extract k z.length=bs (z.drop k):=by rw[sR,aM (by simp)]
 have j:(bs z).extract 0 k=bs (z.take k):=by rw[sR,dW,gk]
 go_wp2_with fail;refine(Bl (z.drop k) 48 _ (by decide) (by simp;omega)).mono ?_;rintro e o ⟨rfl,rfl⟩;rw[Bn];have a:Ag z k=z.take k++(if mQ (z.drop k)=[]then[]else 46::mQ (z.drop k)):=rfl
 have d:(mQ (z.drop k)).length<=1000000:=by
  unfold mQ;rw[List.length_reverse];refine af (gq _).length_le ?_;simp;omega
 generalize mQ (z.drop k)=T at*
 cases T with
 |nil=>
  rw[aq rfl,bG]at a;have c:=O a;clear a;go_wp2;go_ret;refine⟨?_,rfl⟩;rw[c];rfl
 |cons b T=>
  rw[aj (fJ _ _)]at a;have c:=O a;clear a
  have f:T.length<=1000000:=by simp at d;omega
  go_wp2;go_ret;refine⟨?_,rfl⟩
  show Ending.returned (.string (bs (z.take k)++bs [46]++bs (b::T)))=_
  rw[oQ,oQ,c,aC];rfl
def Fr(s:List UInt8)(d:Nat):List UInt8:=List.replicate (d+1-s.length) 48++s
def Ah(s:List UInt8)(d:Nat):rO s d=Ag (Fr s d) ((Fr s d).length-d):=rfl
def Le(l:List UInt8):(mQ l).length<=l.length:=by
 unfold mQ;rw[List.length_reverse];exact af (gq _).length_le (by simp)
def Is(z:List UInt8)(k:Nat):(Ag z k).length<=2*z.length+1:=by
 unfold Ag;rw[al,bn];have h1:=Le (z.drop k);rw[eQ]at h1;split
 .simp;omega
 .rw[aH];omega
def Ai(z:Int):Lib.trimPrefix (De z) [45]=Lib.decDigits z.natAbs:=by
 unfold Lib.trimPrefix De;by_cases h:z<0
 .rw[aq h];rfl
 .rw[aj h,bD]
  cases hd:Lib.decDigits z.natAbs with
  |nil=>rfl
  |cons b l=>
   have hb:ma b=true:=nn z.natAbs b (by rw[hd];exact aG);have a:=Qz hb
   have:Lib.hasPrefix (b::l) [45]=false:=by
    show((45:UInt8)==b&&_)=false
    rw[cL];exact VR (ak.2 (fun e=>a e.symm))
   rw[this];rfl
def Aj(z:Int)(d:Nat)(w:World)(hd:d<=18)(hz:(Lib.decDigits z.natAbs).length<=100):
 Calls prog 73 #[.string (bs (De z)),.int .i64 (d:Int)] w (iZ w (.string (bs (iz z d)))):=by
 have r:=Ai z
 have A:(if z<0 then[45]else([]:List UInt8)).length<=1:=by split<;>simp
 have i:iz z d=(if z<0 then[45]else[])++rO (Lib.decDigits z.natAbs) d:=by rw[EF];rfl
 have c:De z=(if z<0 then[45]else[])++Lib.decDigits z.natAbs:=rfl;generalize Lib.decDigits z.natAbs=D at*;generalize(if z<0 then[45]else([]:List UInt8))=M at*;have hM:M.length<=1:=A
 have hl:((De z).length:Int)-(D.length:Int)=(M.length:Int):=by rw[c,al];omega
 have e2:(bs (De z)).extract 0 M.length=bs M:=by rw[sR,c,dW,gk,List.take_left'];rfl
 have N:(De z).length<=101:=by rw[c,al];omega
 have u:=O r;have n:=O i;have L:=O c;clear r i c;go_enter func73,ntmps73;go_wp2_with fail;refine(tX _ [45] _).mono ?_;rintro e w1 ⟨rfl,rfl⟩;rw[u];go_wp2_with fail;have c0:(w.alloc (.cells #[.string (bs D)] 9)).cell? (J (w.heap.size))=some (.string (bs D)):=World.cell?_alloc_at _ _ _ _ rfl
 have h:w.heap.size<(w.alloc (.cells #[.string (bs D)] 9)).heap.size:=by simp
 have l:=O (show Below w w (w.alloc (.cells #[.string (bs D)] 9))from(TH _ _).alloc (ag _) _);have f:=O (TL w (.cells #[.string (bs D)] 9));generalize(w.alloc (.cells #[.string (bs D)] 9))=w0 at*;refine gS 9 [(0,true),(1,true),(2,true),(3,true),(4,true),(5,true),(7,true),(6,false),(8,true)] (by kernel_rfl) (by kernel_rfl) ?_
 iterate 7
  refine gU (v:=?_) ?_ ?_;rotate_left
  .intro x B
   have z1:=(B.cell (p:=J (w.heap.size)) h).trans c0;go_simp;with_reducible rfl
  try simp only[V]
 refine gP (fun K q=>?_);go_simp
 have em:max (IntKind.i64.wrap (IntKind.i64.wrap ((d:Int)+1)-(D.length:Int))) 0=((d+1-D.length:Nat):Int):=by
  rw[TM ((d:Int)+1) (by omega),TM _ (by omega)];omega
 rw[em];refine(zY [48] (d+1-D.length) _ (by omega) (by simp)).mono ?_;rintro e E ⟨rfl,m⟩;rw[Af];refine q _ _ m ?_;clear q K;(try simp only[V]);have g:=gJ (k:=1) m;have F:bs (List.replicate (d+1-D.length) 48)++bs D=bs (Fr D d):=oQ _ _
 have T:(List.replicate (d+1-D.length) (48:UInt8)).length<=19:=by rw[dr];omega
 have S:(Fr D d).length<=119:=by unfold Fr;rw[al];omega
 have H:d<=(Fr D d).length:=by unfold Fr;rw[al,dr];omega
 have o:=O (Ah D d);generalize List.replicate (d+1-D.length) (48:UInt8)=R at*;generalize Fr D d=Zq0 at*;have j:=O g;clear m g em
 have Q:¬9223372036854775807<R.length+D.length:=by omega
 refine gU (v:=?_) ?_ ?_;rotate_left
 .intro x B
  go_simp;with_reducible rfl
 (try simp only[V]);refine iu rfl ?_;have a:=(j.block w h).trans f;have f1:=gD a 0;have k0:=VV a 0;have C:E.cell? (J (w.heap.size))=some (.string (bs D)):=k0.trans rfl;have b:=gG a 0 (.string (bs Zq0));have t:=O (show(E.setCell (J (w.heap.size)) (.string (bs Zq0))).cell? (J (w.heap.size))=some (.string (bs Zq0))from(VV b 0).trans rfl);have y:=O ((l.trans (j.mono l.size)).setCell (p:=J (w.heap.size)) (ag _) (.string (bs Zq0)))
 have P:∀(fn:Fn)(first cap:Array Value)(w:World),(Instr.makeFunc fn first cap).run prog w=.ok (.func fn first cap) w:=fun _ _ _ _=>rfl
 have X:((Zq0.length:Int)-(d:Int))=((Zq0.length-d:Nat):Int):=by omega
 clear k0 c0 a b f l j;go_wp2_with fail;refine(Dw Zq0 (Zq0.length-d) w _ t (by omega) (by omega)).mono ?_;rintro e w4 ⟨rfl,rfl⟩;rw[<- o]
 have W:(rO D d).length<=300:=by
  rw[o];have h1:=Is Zq0 (Zq0.length-d);omega
 generalize rO D d=Uq0 at*
 have s:bs M++bs Uq0=bs (iz z d):=by rw[oQ,n]
 clear f1 C;go_wp2;go_ret;exact⟨rfl,y⟩
def It{z:Int}(h1: -9223372036854775808<=z)(h2:z<=9223372036854775807):(Lib.decDigits z.natAbs).length<=100:=
 af (EI (nu z h1 h2) (by omega)) (by omega)
def Fs(z:Int)(d:Nat)(w:World)(h1: -9223372036854775808<=z)(h2:z<=9223372036854775807)(h:d<=18)(i:GW w):
 Calls prog 40 #[z,.int .i64 (d:Int)] w (iZ w (.tuple #[.string (bs (iz z d)),oZ])):=by
 have j:¬(d:Int) <0:=by omega
 have k:¬18<(d:Int):=by omega
 have hi:=Ny z w h1 h2 i;rw[PQ]at hi;have g:=O hi;clear hi;go_enter func40,ntmps40;go_wp2_with fail;refine g.mono ?_;rintro e l ⟨rfl,a:HQ _⟩;have f:=It h1 h2;go_wp2_with fail;refine(Aj z d _ h f).mono ?_;rintro e m ⟨rfl,b⟩;have c:=O (a.trans (b.mono a.size));clear b;go_wp2;go_ret2;exact⟨rfl,c⟩
def nP:Nat->Option Nat->Int->List UInt8->Option Nat×Int
 |_,pt,last,[]=>(pt,last)
 |i,pt,last,c::r=>
  if c=46/\pt=none/\0<i then nP (i+1) (some i) 46 r
  else if ma c then nP (i+1) pt (c.toNat:Int) r else(pt,32)
def tj(d:Int)(w:List UInt8):Int:=match w.getLast? with
 |none=>d
 |some b=>(b.toNat:Int)
def rg:∀(w r:List UInt8)(i:Nat)(d:Option Nat)(a:Int),w.all ma=true->nP i d a (w++r)=nP (i+w.length) d (tj a w) r
 |[],r,i,d,a,_=>rfl
 |c::w,r,i,d,a,h=>by
  rw[fh,am]at h
  have f:c≠46:=by have:=Qy h.1;exact ak.1 this
  rw[bF,nP,aj (fun e=>f e.1),aq h.1,rg w r (i+1) d _ h.2,aH];rw[show i+1+w.length=i+(w.length+1)by omega];congr 1;unfold tj
  cases w with
  |nil=>rfl
  |cons b w=>rw[gh];cases hh:(b::w).getLast? with
   |none=>simp at hh
   |some x=>rfl
def Cp{i:Nat}{b:Option Nat}{a:Int}{c:UInt8}{r:List UInt8}(h1:¬(c=46/\b=none/\0<i))(h2:ma c=false):nP i b a (c::r)=(b,32):=by
 rw[nP,aj h1,h2];rfl
def Ak(x:Int):Bool:=decide (48<=x/\x<=57)
def PR{b:UInt8}(h:ma b=true):Ak (b.toNat:Int)=true:=by
 have:=bZ h;exact aP (by omega)
def WL(t:List UInt8)(q:Option Nat×Int):Option Nat:=
 let a:List UInt8:=match q.1 with
  |none=>t
  |some p=>t.take p
 if Ak q.2=false\/(q.1≠none/\q.2=48)then none
 else if 1<a.length/\a.head?=some 48 then none
 else some (match q.1 with
  |none=>0
  |some p=>t.length-p-1)
def yd{w:List UInt8}(hw:w.all ma=true)(a:w≠[])(d:Int):Ak (tj d w)=true:=by
 unfold tj
 cases h:w.getLast? with
 |none=>exact absurd (fV.1 h) a
 |some b=>exact PR (an.1 hw b (List.mem_of_getLast? h))
def Al{w:List UInt8}(a:w≠[])(d:Int):tj d w=48↔w.getLast?=some 48:=by
 unfold tj
 cases h:w.getLast? with
 |none=>exact absurd (fV.1 h) a
 |some b=>
  simp only[bA];constructor
  .intro e;exact fN.1 (by show b.toNat=48;omega)
  .intro e;rw[e];rfl
def Lf(t:List UInt8):WL t (nP 0 none 32 t)=YT t:=by
 have a:t=t.takeWhile ma++t.dropWhile ma:=(dX).symm;have hw:(t.takeWhile ma).all ma=true:=eF;unfold YT;simp only[];generalize hW:t.takeWhile ma=w at*;generalize hR:t.dropWhile ma=r at*
 have x:∀b m,r=b::m->ma b=false:=by
  intro b m e;have:=fZ ma t;rw[hR,e]at this;simpa using this
 have y:nP 0 none 32 t=nP w.length none (tj 32 w) r:=by
  have:=rg w r 0 none 32 hw;rw[<- a,aV]at this;exact this
 rw[y]
 cases r with
 |nil=>
  rw[bG]at a;subst a;rw[nP];unfold WL;simp only[];by_cases j:t=[]
  .subst j;rfl
  .have h1:¬(Ak (tj 32 t)=false\/((none:Option Nat)≠none/\tj 32 t=48)):=by
    rw[yd hw j];simp
   rw[aj h1];by_cases d:1<t.length/\t.head?=some 48
   .rw[aq d,aq (VS d)]
   .rw[aj d,aj (fun e=>e.elim j d)]
 |cons b f=>
  have hb:=x b f rfl;by_cases h:b=46/\0<w.length
  .obtain⟨rfl,n⟩:=h
   have j:w≠[]:=fun e=>by rw[e]at n;simp at n
   rw[nP,aq ⟨rfl,rfl,n⟩]
   have k:t.take w.length=w:=by rw[a];simp
   have s:t.length-w.length-1=f.length:=by rw[a,al,aH];omega
   by_cases hf:f.all ma=true
   .have h2:=rg f [] (w.length+1) (some w.length) 46 hf
    rw[bG]at h2;rw[h2,nP];unfold WL;simp only[k,s];by_cases i:f=[]
    .subst i
     have:Ak (tj 46 [])=false:=rfl;rw[aq (VR this)];by_cases d:w=[]\/(1<w.length/\w.head?=some 48)
     .rw[aq d]
     .rw[aj d,aj (fun e=>e.2.1 rfl)]
    .rw[yd hf i]
     by_cases o:f.getLast?=some 48
     .have:tj 46 f=48:=(Al i 46).2 o
      rw[aq (VS ⟨by simp,this⟩)];by_cases d:w=[]\/(1<w.length/\w.head?=some 48)
      .rw[aq d]
      .rw[aj d,aj (fun e=>e.2.2.2 o)]
     .have:¬tj 46 f=48:=fun e=>o ((Al i 46).1 e)
      rw[aj (by simp[this])];by_cases d:1<w.length/\w.head?=some 48
      .rw[aq d,aq (VS d)]
      .rw[aj d,aj (fun e=>e.elim j d),aq ⟨trivial,i,hf,o⟩]
   .have q:∃u,nP (w.length+1) (some w.length) 46 f=(u,32):=by
     have l:f=f.takeWhile ma++f.dropWhile ma:=(dX).symm
     cases hd:f.dropWhile ma with
     |nil=>
      rw[hd,bG]at l;exact absurd (by rw[l];exact eF) hf
     |cons c g=>
      have v:ma c=false:=by
       have:=fZ ma f;rw[hd]at this;simpa using this
      rw[l,hd,rg _ _ _ _ _ eF,Cp (by simp) v];exact⟨_,rfl⟩
    obtain⟨u,p⟩:=q;rw[p];unfold WL;have:Ak 32=false:=rfl;simp only[this,true_or,bX];by_cases d:w=[]\/(1<w.length/\w.head?=some 48)
    .rw[aq d]
    .rw[aj d,aj (fun e=>hf e.2.2.1)]
  .rw[Cp (fun e=>h ⟨e.1,e.2.2⟩) hb]
   unfold WL;have:Ak 32=false:=rfl;simp only[this,true_or,bX];by_cases d:w=[]\/(1<w.length/\w.head?=some 48)
   .rw[aq d]
   .rw[aj d,aj]
    rintro⟨rfl,_⟩;refine h ⟨rfl,ez.2 (fun e=>d (VR e))⟩
def QU(w:World)(g h j:Obj)(xs ys:List Int)(e d f:Value)(wr:World):Prop:=
 ∃(i:Nat)(a:Int)(b:Option Addr)(c:Nat)(zs:List Int),e=.slice b zs.length c/\d=.int .i64 a/\f=.int .i64 (i:Int)/\Py xs ys zs i a/\
  i<=xs.length/\wr.ownsRow (w+3) 3 1 (.slice b zs.length c) zs.length (zs.map (Value.int .i64))/\
  wr.heap[w.heap.size]? =some g/\wr.heap[w.heap.size+1]? =some h/\wr.heap[w.heap.size+2]? =some j/\Below w w wr/\w.heap.size+3<=wr.heap.size
def zG(s:Bool)(x y:Int)(a b:Option Addr)(n m c d:Nat)(w:World)(K:LG w w s a n c x)(hb:LG w w s b m d y)(f9:n≠0)(f8:m≠0)(d9:y.natAbs<=x.natAbs):
 Calls prog 183 #[.agg #[s,Z a n c],.agg #[s,Z b m d]] w (tb w (x-y)):=by
 have g0:((n:Int)==0)=false:=by simp;omega
 have g1:((m:Int)==0)=false:=by simp;omega
 have hn:=K.2.2;have hm:=hb.2.2
 have d8:m<=n:=by rw[K.2.1.len,hb.2.1.len];exact iM d9
 have d2:=O (show decide (x.natAbs<y.natAbs)=false from aw (by omega));have o:=O (lW w (.cells #[s,Z a n c] 178) (.cells #[s,Z b m d] 178) (.cells #[false,oN] 178));obtain⟨i1,i2,i3⟩:=jh w (.cells #[s,Z a n c] 178) (.cells #[s,Z b m d] 178) (.cells #[false,oN] 178);have d4:=O (show s=decide (x<0)/\s=decide (y<0)from⟨K.1,hb.1⟩);have z:=O K.2.1;have A:=O hb.2.1;have I1:=O i1;have I2:=O i2;have I3:=O i3;have D:=O (K.2.1.len);have E:=O (hb.2.1.len);clear K hb i1 i2 i3;go_enter func183,ntmps183;go_wp2_with fail;refine(tP x.natAbs y.natAbs a b n m c d _ (by exact z.go o) (by exact A.go o) (by omega)).mono ?_;rintro e wq ⟨he,kq,rfl⟩;rw[d2]at he;subst he;go_upto_region 9 with fail;refine jp (fun wx=>wx.heap[w.heap.size]? =some (.cells #[s,Z a n c] 178 (0,0))/\wx.heap[w.heap.size+1]? =some (.cells #[s,Z b m d] 178 (0,0))/\wx.heap[w.heap.size+2]? =some (.cells #[false,oN] 178 (0,0))/\Below w w wx) ⟨I1,I2,I3,gV o kq⟩ ?_;clear I1 I2 I3 o;rintro w0 ⟨j1,j2,j3,b4⟩;have e9:=TK j3;have J1:=O j1;have J2:=O j2;have J3:=O j3;have c6:=O b4;have b5:=iU x.natAbs;have b6:=iU y.natAbs;have c3:=iY x.natAbs;have c4:=iY y.natAbs;have c1:=z.out;have c2:=A.out;have t:=D.out;have b9:=E.out
 have F:(ip x.natAbs).length<=600:=by omega
 clear j1 j2 j3 b4 z A D E;have c9:=O (show(ip (x.natAbs-y.natAbs)).length<=600 from af (iM (Nat.sub_le _ _)) F);generalize ip x.natAbs=xs at*;generalize ip y.natAbs=ys at*;have C:=O t;have d3:=O b9;have P:=O b5;have Q:=O b6;have b0:=O c3;have b1:=O c4;have z:=O c1;have A:=O c2;clear t b9 b5 b6 c3 c4 c1 c2 F;go_wp2
 go_loopw [5,6,7] (fun dv cv iv wr=>QU w (.cells #[s,Z a n c] 178 (0,0)) (.cells #[s,Z b m d] 178 (0,0)) (.cells #[false,oN] 178 (0,0)) xs ys dv cv iv wr) (fun _ _ iv _=>n-(intOf iv).toNat)
 case atStart=>exact⟨0,0,none,0,[],rfl,rfl,rfl,⟨rfl,ms.nil,by simp[val],by omega,by omega⟩,aA _,World.ownsRow_nil _ _ _ _,J1,J2,J3,c6,by omega⟩
 case round=>
  obtain⟨i,B,va,vc,zs,rfl,rfl,rfl,u,hi,H,a0,a1,a2,r,l⟩:=hrel;obtain⟨q1,q2,f1,f2⟩:=gQ a0;obtain⟨q3,q4,f3,f4⟩:=gQ a1;obtain⟨q5,q6,f5,f6⟩:=gQ a2;have c5:=O (z.go r);have c8:=O (A.go r);have e0:=u.2.2.2.1;have e6:=u.2.2.2.2;have b2:=O u.1
  have f7:i<=n:=by rw[C];exact hi
  have HD:=O u;have g:=O H;have a7:=O a0;have a8:=O a1;have a9:=O a2;clear u H a0 a1 a2 f1 f2 f3 f4 hi;by_cases hlt:i<n
  .obtain⟨ba,oa,rfl,d6,ca⟩:=c5.at (by omega)
   have g5:=ca i hlt;have a5:=d6;clear ca;have e7:=P.all i;have e8:=Q.all i;have M:=O (HD.less P Q);have N:=O (HD.more P Q);generalize hxi:xs.getD i 0=xi at*;generalize hyi:ys.getD i 0=yi at*;have d5:=O hyi;clear hxi hyi;go_wp2_with fail;refine gS 12 [(0,true),(1,true),(2,true),(3,true),(4,true),(5,true),(6,true),(7,true),(10,true),(8,false),(9,true),(11,true)] (by kernel_rfl) (by kernel_rfl) ?_
   iterate 9
    refine gU (v:=?_) ?_ ?_;rotate_left
    .intro y hy
     have z2:=(hy.cell (p:=⟨w.heap.size,1,none⟩) (by show w.heap.size<wr.heap.size;omega)).trans q2;have z4:=(hy.cell (p:=⟨w.heap.size+1,1,none⟩) (by show w.heap.size+1<wr.heap.size;omega)).trans q4;have z5:=(hy.cell (p:=⟨ba,oa+i,none⟩) a5).trans g5;go_simp;with_reducible rfl
    try simp only[V]
   refine gP (fun KK b3=>?_);go_simp;refine(ux ys b m d i yi _ (by exact c8) (by omega) (by omega) d5).mono ?_;rintro e w4 ⟨rfl,rfl⟩;refine b3 _ _ (TH _ _) ?_;clear b3 KK;try simp only[V]
   iterate 2
    refine gU (v:=?_) ?_ ?_;rotate_left
    .intro y hy
     skip;go_simp;with_reducible rfl
    try simp only[V]
   refine iu rfl ?_
   have f0:zs.length<=601:=by have:=b2.out;omega
   by_cases a6:xi-yi-B<0
   .have c0:¬0<=xi-yi-B:=by omega
    have L:=O (M a6);clear M N q1 q2 q3 q4 q5 q6 f5 f6
    go_wp2_with(refine ju rfl (.tmp 61) (.tmp 63) 109 rfl underlying109 (w+3) _ _ zs rfl (g.alloc _) _ _ 1 1 [_] rfl (SL.one wr.drew _ _) (by simp) (by omega) (by simp;omega) ?_)
    intro v' w1 h j;obtain⟨a3,a4,rfl⟩:=kx h;have f:(wr.alloc (.cells #[.int .i64 (xi-yi-B+1000000000)] 3)).grownBy w1 (Value.slice va zs.length vc).ownBlock:=pY j;have W:=(jI (base:=w.heap.size+3) g f (b:=w.heap.size) (by omega) l).trans a7;have X:=(jI (base:=w.heap.size+3) g f (b:=w.heap.size+1) (by omega) l).trans a8;have e5:=(jI (base:=w.heap.size+3) g f (b:=w.heap.size+2) (by omega) l).trans a9;have e3:=jF r g f (by omega) l;have e4:=f.size;have R:=O W;have S:=O X;have T:=O e5;have k:=O h;clear W X e5 h j f;go_wp2
    go_roundw
    case rel=>
     refine⟨i+1,1,a3,a4,zs++[xi-yi-B+1000000000],by simp,rfl,by go_num,L,?_,?_,R,S,T,e3,?_⟩
     .rw[<- C];omega
     .simpa using k.out
     .simp at e4⊢;omega
    case measure=>simp[intOf];omega
   .have c0:0<=xi-yi-B:=by omega
    have L:=O (N c0);clear M N q1 q2 q3 q4 q5 q6 f5 f6
    go_wp2_with(refine ju rfl (.tmp 61) (.tmp 63) 109 rfl underlying109 (w+3) _ _ zs rfl (g.alloc _) _ _ 1 1 [_] rfl (SL.one wr.drew _ _) (by simp) (by omega) (by simp;omega) ?_)
    intro v' w1 h j;obtain⟨a3,a4,rfl⟩:=kx h;have f:(wr.alloc (.cells #[.int .i64 (xi-yi-B)] 3)).grownBy w1 (Value.slice va zs.length vc).ownBlock:=pY j;have W:=(jI (base:=w.heap.size+3) g f (b:=w.heap.size) (by omega) l).trans a7;have X:=(jI (base:=w.heap.size+3) g f (b:=w.heap.size+1) (by omega) l).trans a8;have e5:=(jI (base:=w.heap.size+3) g f (b:=w.heap.size+2) (by omega) l).trans a9;have e3:=jF r g f (by omega) l;have e4:=f.size;have R:=O W;have S:=O X;have T:=O e5;have k:=O h;clear W X e5 h j f;go_wp2
    go_roundw
    case rel=>
     refine⟨i+1,0,a3,a4,zs++[xi-yi-B],by simp,rfl,by go_num,L,?_,?_,R,S,T,e3,?_⟩
     .rw[<- C];omega
     .simpa using k.out
     .simp at e4⊢;omega
    case measure=>simp[intOf];omega
  .have d7:i=n:=by omega
   subst d7;have u:=HD.out;have t:=C.out;rw[t]at u;have hv:=u.last (by rw[<- d3,<- t];exact d8) (by rw[b0,b1];omega);rw[b0,b1]at hv
   have hz:x-y=if s then -val zs else val zs:=by
    obtain⟨s1,s2⟩:=d4;rw[hv];cases s
    .have h1:¬x<0:=by simpa using s1
     have h2:¬y<0:=by simpa using s2
     simp;omega
    .have h1:x<0:=by simpa using s1
     have h2:y<0:=by simpa using s2
     simp;omega
   have b7:(ip (val zs).toNat).length<=600:=by
    have e:(val zs).toNat=x.natAbs-y.natAbs:=by rw[hv];omega
    rw[e];exact c9
   have Hz:=O hz;have d0:=O b7;clear u t hv hz b7;go_wp2_with fail;refine(nl s zs (x-y) _ _ _ _ (by exact ur g) HD.2.1 (by have:=b2.out;omega) d0 Hz).mono ?_;rintro e w1 ⟨s',a',n',c',rfl,b8,q,hf⟩;have k5:=(q.cell (p:=J (w+2)) (by show w.heap.size+2<wr.heap.size;omega)).trans q5;have k6:=(q.cell (p:=⟨w.heap.size+2,1,none⟩) (by show w.heap.size+2<wr.heap.size;omega)).trans q6;have k7:=(q.frozen (p:=J (w+2)) (by show w.heap.size+2<wr.heap.size;omega)).trans f5;have k8:=(q.frozen (p:=⟨w.heap.size+2,1,none⟩) (by show w.heap.size+2<wr.heap.size;omega)).trans f6;have d1:=O b8;have Hf:=O hf;have c7:=O q;clear b8 hf q;go_wp2_with fail;refine ar (v:=.agg #[s',Z a' n' c']) ?_ rfl ?_
   .simp[results,results183,go_sem,k5,k6]
   .exact pF d1 (r.trans (c7.mono r.size)) Hf (w+2) (by omega) (by omega) _ _
def GV(s:Bool)(x y:Int)(a b:Option Addr)(n m c d:Nat)(w:World)(z:LG w w s a n c x)(hb:LG w w s b m d y)(H:n≠0)(F:m≠0)(t:x.natAbs<y.natAbs):
 Calls prog 183 #[.agg #[s,Z a n c],.agg #[s,Z b m d]] w (tb w (x-y)):=by
 have g0:((n:Int)==0)=false:=by simp;omega
 have g1:((m:Int)==0)=false:=by simp;omega
 have hn:=z.2.2;have C:=O (show decide (x.natAbs<y.natAbs)=true from aP t);have f:=lW w (.cells #[s,Z a n c] 178) (.cells #[s,Z b m d] 178) (.cells #[false,oN] 178);obtain⟨D:HQ _,I2:HQ _,I3:HQ _⟩:=jh w (.cells #[s,Z a n c] 178) (.cells #[s,Z b m d] 178) (.cells #[false,oN] 178);have j:=O (z.go f);have k:=O (hb.go f);have i:=O f;clear z hb f;go_enter func183,ntmps183;go_wp2_with fail;refine(tP x.natAbs y.natAbs a b n m c d _ (by exact j.2.1) (by exact k.2.1) (by omega)).mono ?_;rintro e wq ⟨E,R,rfl⟩;rw[C]at E;subst E;go_upto_region 8 with fail;refine jp (fun h=>h.heap[w.heap.size]? =some (.cells #[s,Z a n c] 178 (0,0))/\h.heap[w.heap.size+1]? =some (.cells #[s,Z b m d] 178 (0,0))/\h.heap[w.heap.size+2]? =some (.cells #[false,oN] 178 (0,0))/\LG h h s a n c x/\LG h h s b m d y/\Below w w h) ⟨D,I2,I3,j,k,gV i R⟩ ?_;clear D I2 I3 i j k;rintro w0 ⟨K,L,u:HQ _,j:HQ _,k:HQ _,Hb0:HQ _⟩;have p:=TK u;obtain⟨W,X,f1,P⟩:=gQ K;obtain⟨q3,q4,f3,Q⟩:=gQ L;clear K L;go_wp2_with fail;refine(zG s y x b a m n d c _ (by exact k) (by exact j) F H (cE t)).mono ?_;rintro e w1 ⟨s1,a1,S,c1,rfl,A:HQ _,Hb1:HQ _,f1'⟩;clear W X q3 q4 f1 P f3 Q;go_wp2_with fail;refine(wh s1 (y-x) a1 S c1 w1 (by exact A)).mono ?_;rintro e w2 ⟨s2,a2,T,c2,rfl,l,r,q⟩;rw[show -(y-x)=x-y by omega]at l;have g:Below w0 w0 w2:=Hb1.trans (r.mono Hb1.size);have M:=(g.block (w+2) p).trans u;obtain⟨q5,q6,f5,f6⟩:=gQ M;have a0:=Hb1.size;have B:=O l;have o:=O g;have N:=O q;clear l r g q M u;go_wp2_with fail;refine ar (v:=.agg #[s2,Z a2 T c2]) ?_ rfl ?_
 .simp[results,results183,go_sem,q5,q6]
 .exact pF B (Hb0.trans (o.mono Hb0.size)) N (w+2) (by omega) (by omega) _ _
def Df(s:Bool)(x y:Int)(a b:Option Addr)(n m c d:Nat)(w:World)(g:LG w w s a n c x)(hb:LG w w s b m d y)(f:n≠0)(e:m≠0):
 Calls prog 183 #[.agg #[s,Z a n c],.agg #[s,Z b m d]] w (tb w (x-y)):=by
 by_cases h:y.natAbs<=x.natAbs
 .exact zG s x y a b n m c d w g hb f e h
 .exact GV s x y a b n m c d w g hb f e (by omega)
def QV{s t:Bool}(h:s≠t):s=!t:=by revert h;cases s<;>cases t<;>decide
def QW(w:World)(z:Int)(e:Ending)(w':World):Prop:=
 ∃s a n c,e=.returned (.agg #[.bool s,Z a n c])/\LG w' w' s a n c z/\Below w w w'
def Pz(s t:Bool)(a6:s≠t)(x y:Int)(a b:Option Addr)(n m c d:Nat)(w:World)(q:LG w w s a n c x)(hb:LG w w t b m d y):
 Calls prog 187 #[.agg #[s,Z a n c],.agg #[t,Z b m d]] w (QW w (x+y)):=by
 have i:=lW w (.cells #[s,Z a n c] 178) (.cells #[t,Z b m d] 178) (.cells #[false,oN] 178);obtain⟨i1,i2,i3⟩:=jh w (.cells #[s,Z a n c] 178) (.cells #[t,Z b m d] 178) (.cells #[false,oN] 178);have hn:=q.2.2;have hm:=hb.2.2
 have a7:n=0->x=0:=fun e=>by have h:=q.2.1.len;rw[e]at h;have:=jC.1 h.symm;omega
 have a8:m=0->y=0:=fun e=>by have h:=hb.2.1.len;rw[e]at h;have:=jC.1 h.symm;omega
 have D:=O (hb.2.1.len);have b2:=O (show t=decide (y<0)from hb.1);have L:=O (q.go i);have N:=O (hb.go i);have R:=O i1;have S:=O i2;have T:=O i3;have g:=O i;have M:=O q;have P:=O hb;have B:=O a7;have C:=O a8;clear q hb i1 i2 i3 i a7 a8;by_cases h0:n=0
 .have hx:=B h0
  subst h0;clear R S T g B C;have l:=O (lW w (.cells #[s,Z a 0 c] 178) (.cells #[t,Z b m d] 178) (.cells #[t,Z b m d] 178));obtain⟨e1,e2,E⟩:=jh w (.cells #[s,Z a 0 c] 178) (.cells #[t,Z b m d] 178) (.cells #[t,Z b m d] 178);obtain⟨c0,c1,_,_⟩:=gQ E;have C0:=O c0;have C1:=O c1;clear c0 c1 e1 e2 E;go_enter func187,ntmps187;go_wp2;refine ar (v:=.agg #[t,Z b m d]) ?_ rfl ?_
  .simp[results,results187,go_sem,C0.out,C1.out]
  .exact⟨t,b,m,d,rfl,by rw[hx,Int.zero_add];exact P.go l,l⟩
 .have g0:((n:Int)==0)=false:=by simp;omega
  by_cases a4:m=0
  .have z:=C a4
   subst a4;clear R S T g B C;have l:=O (lW w (.cells #[s,Z a n c] 178) (.cells #[t,Z b 0 d] 178) (.cells #[s,Z a n c] 178));obtain⟨e1,e2,E⟩:=jh w (.cells #[s,Z a n c] 178) (.cells #[t,Z b 0 d] 178) (.cells #[s,Z a n c] 178);obtain⟨c0,c1,_,_⟩:=gQ E;have C0:=O c0;have C1:=O c1;clear c0 c1 e1 e2 E;go_enter func187,ntmps187;go_wp2;refine ar (v:=.agg #[s,Z a n c]) ?_ rfl ?_
   .simp[results,results187,go_sem,C0.out,C1.out]
   .exact⟨s,a,n,c,rfl,by rw[z,fB];exact M.go l,l⟩
  .have g1:((m:Int)==0)=false:=by simp;omega
   have g2:(!(s==t))=true:=by simpa using a6
   have b1:=O (QV a6);go_enter func187,ntmps187;go_upto_region 6 with fail;refine jp (fun r=>r.heap[w.heap.size]? =some (.cells #[s,Z a n c] 178 (0,0))/\r.heap[w.heap.size+1]? =some (.cells #[t,Z b m d] 178 (0,0))/\r.heap[w.heap.size+2]? =some (.cells #[false,oN] 178 (0,0))/\LG r r s a n c x/\LG r r t b m d y/\Below w w r) ⟨R,S,T,L,N,g⟩ ?_;clear R S T g L N;rintro w0 ⟨j1,j2,A,q,hb,a3⟩;have W:=TK A;obtain⟨q1,q2,_,_⟩:=gQ j1;obtain⟨q3,q4,_,_⟩:=gQ j2;have J3:=O A;have X:=O a3;have L:=O q;have N:=O hb;clear j1 j2 A a3 q hb;refine gS 4 [(0,true),(1,true),(2,false),(3,false)] (by kernel_rfl) (by kernel_rfl) ?_
   iterate 2
    refine gU (v:=?_) ?_ ?_;rotate_left
    .intro y z
     have x1:=(z.cell (p:=J (w.heap.size)) (by show w.heap.size<w0.heap.size;omega)).trans q1;have x2:=(z.cell (p:=⟨w.heap.size,1,none⟩) (by show w.heap.size<w0.heap.size;omega)).trans q2;have x3:=(z.cell (p:=J (w+1)) (by show w.heap.size+1<w0.heap.size;omega)).trans q3;have x4:=(z.cell (p:=⟨w.heap.size+1,1,none⟩) (by show w.heap.size+1<w0.heap.size;omega)).trans q4;go_simp;with_reducible rfl
    try simp only[V]
   clear q1 q2 q3 q4;refine gP (fun KK o=>?_);go_simp;refine(wh t y b m d w0.drew (by exact N)).mono ?_;rintro e w1 ⟨s1,a1,n1,c1,rfl,u,F,b3⟩;refine o _ _ F ?_;clear o KK
   have a5:s1=s:=by
    rw[u.1,b1,b2]
    have b5:y≠0:=fun e=>by rw[e,show(0:Int).natAbs=0 from rfl,jP]at D;have:=D.out;simp at this;omega
    by_cases h:y<0
    .rw[aP h];exact aw (by omega)
    .rw[aw h];exact aP (by omega)
   subst a5
   have b4:n1≠0:=fun e=>by
    have h1:=u.2.1.len;rw[e,Int.natAbs_neg,<- D]at h1;omega
   have f:=O (show Below w0 w0 w1 from gJ (k:=1) F);have a9:=O u;clear u F b3;(try simp only[V]);refine gP (fun KK o=>?_);go_simp;refine(Df s1 x (-y) a a1 n n1 c c1 w1 (by exact L.go f) (by exact a9) h0 b4).mono ?_;rintro e w2 ⟨s2,a2,n2,c2,rfl,K,H,a0⟩;refine o _ _ H ?_;clear o KK;rw[show x- -y=x+y by omega]at K;have j:Below w0 w0 w2:=f.trans (H.mono f.size);have A:=(j.block (w+2) W).trans J3;obtain⟨q5,q6,f5,f6⟩:=gQ A;have a5:=f.size;have b0:=O K;have Q:=O j;have F2:=O a0;clear K H j a0 A J3;(try simp only[V]);refine iu rfl ?_;go_wp2_with fail;refine ar (v:=.agg #[s2,Z a2 n2 c2]) ?_ rfl ?_
   .simp[results,results187,go_sem,q5,q6]
   .obtain⟨z1,z2,z3,z4,z5,z6,z7,z8⟩:=pF (w:=w) b0 (X.trans (Q.mono X.size)) F2 (w+2) (by omega) (by omega) (.bool s2) (.slice a2 n2 c2)
    exact⟨z1,z2,z3,z4,z5,z6,z7⟩
def EJ(s t:Bool)(x y:Int)(a b:Option Addr)(n m c d:Nat)(w:World)(g:LG w w s a n c x)(hb:LG w w t b m d y)(f:(ip (x+y).natAbs).length<=600):
 Calls prog 187 #[.agg #[s,Z a n c],.agg #[t,Z b m d]] w (QW w (x+y)):=by
 by_cases h:s=t
 .subst h
  refine(X7 w s x y a b n m c d w g hb (ag _) f).mono ?_;rintro e w' ⟨s',a',n',c',rfl,h1,h2,_⟩;exact⟨s',a',n',c',rfl,h1,h2⟩
 .exact Pz s t h x y a b n m c d w g hb
def T7(r s:Rat):mkRat (r.num*s.den+s.num*r.den) (r.den*s.den)=r+s:=by
 rw[Rat.add_def,fX,eJ (Nat.mul_ne_zero r.den_nz s.den_nz)]
def T8{k l:Nat}{r s:Rat}(h1:Sz k r)(h2:Sz l s):(r.num*s.den+s.num*r.den).natAbs<1000000000^(k+l+1)/\r.den*s.den<1000000000^(k+l):=by
 have a:(r.num*s.den).natAbs<1000000000^(k+l):=by rw[eG,dm,aB];exact cU h1.1 h2.2
 have b:(s.num*r.den).natAbs<1000000000^(k+l):=by rw[eG,dm,aB,gu];exact cU h1.2 h2.1
 refine⟨?_,by rw[dm];exact cU h1.2 h2.2⟩;rw[bM];omega
def M3{k l:Nat}{r s:Rat}(h1:Sz k r)(h2:Sz l s):(r.num*s.den).natAbs<1000000000^(k+l):=by
 rw[eG,dm,aB];exact cU h1.1 h2.2
def M4(g h:Rat)(k1 T:Nat)(s t:Bool)(a b a' b':Option Addr)(n m c d n' m' c' d':Nat)(w:World)(h1:QL w w s a n c b m d g)(h2:QL w w t a' n' c' b' m' d' h)(z1:Sz k1 g)(z2:Sz T h)(hk:k1+T<=598):
 Calls prog 217 #[.agg #[s,Z a n c,false,Z b m d],.agg #[t,Z a' n' c',false,Z b' m' d']] w (GO w (g+h)):=by
 obtain⟨zn,zd⟩:=T8 z1 z2;have ln:(ip (g.num*h.den+h.num*g.den).natAbs).length<=599:=af (iB zn) (by omega);have ld:(ip (g.den*h.den)).length<=599:=af (iB zd) (by omega);have b2:(ip (g.num*((h.den:Nat):Int)).natAbs).length<=600:=af (iB (M3 z1 z2)) (by omega);have b6:=O (show(ip (h.num*((g.den:Nat):Int)).natAbs).length<=600 from af (iB (M3 z2 z1)) (by omega));have c6:0<g.den*h.den:=dZ (bq g.den_nz) (bq h.den_nz);have b8:=O (T7 g h);generalize g+h=R at*;obtain⟨i0,i1,i2⟩:=jh w (.cells #[s,Z a n c,false,Z b m d] 180) (.cells #[t,Z a' n' c',false,Z b' m' d'] 180) (.cells #[false,oN,false,oN] 180);have o:=O (oF w (.cells #[s,Z a n c,false,Z b m d] 180) (.cells #[t,Z a' n' c',false,Z b' m' d'] 180) (.cells #[false,oN,false,oN] 180));have I0:=O i0;have I1:=O i1;have I2:=O i2;have F:=O h1;have H:=O h2;have b7:=O ln;have a8:=O ld;have b5:=O b2;clear i0 i1 i2 h1 h2 zn zd ln ld b2;go_enter func217,ntmps217;go_upto_region 1 with fail;refine jp (fun wx=>pO wx w s a n c false b m d/\pO wx (w+1) t a' n' c' false b' m' d'/\pO wx (w+2) false none 0 0 false none 0 0/\Below w w wx) ⟨I0,I1,I2,o⟩ ?_;clear I0 I1 I2 o;rintro w1 ⟨h0,h1,h2,hb⟩;have W:=TK h0;have l1:=TK h1;have l2:=TK h2;obtain⟨c0,c1,c2,c3⟩:=gL h0;obtain⟨e0,e1,e2,e3⟩:=gL h1;have N:=O h2;have o:=O hb;clear h0 h1 h2 hb;refine gS 17 [(0,true),(1,true),(2,true),(3,true),(5,true),(6,true),(7,true),(8,true),(11,true),(12,true),(13,true),(14,true),(4,false),(9,false),(10,false),(15,false),(16,false)] (by kernel_rfl) (by kernel_rfl) ?_
 iterate 12
  refine gU (v:=?_) ?_ ?_;rotate_left
  .intro y z
   have x0:=(z.cell (p:=J (w.heap.size)) W).trans c0;have x1:=(z.cell (p:=⟨w.heap.size,1,none⟩) W).trans c1;have x2:=(z.cell (p:=⟨w.heap.size,2,none⟩) W).trans c2;have x3:=(z.cell (p:=⟨w.heap.size,3,none⟩) W).trans c3;have y0:=(z.cell (p:=J (w+1)) l1).trans e0;have y1:=(z.cell (p:=⟨w.heap.size+1,1,none⟩) l1).trans e1;have y2:=(z.cell (p:=⟨w.heap.size+1,2,none⟩) l1).trans e2;have y3:=(z.cell (p:=⟨w.heap.size+1,3,none⟩) l1).trans e3;go_simp;with_reducible rfl
  try simp only[V]
 clear c0 c1 c2 c3 e0 e1 e2 e3;refine gP (fun u f=>?_);go_simp;refine(qA s false g.num ((h.den:Nat):Int) a b' n m' c d' w1.drew (by exact F.n.go (oP o)) (by exact H.d.go (oP o)) b5).mono ?_;rintro e w2 ⟨s2,a2,n2,c2,rfl,a9,K,_⟩;refine f _ _ K ?_;clear f u;have j:=O (show Below w1 w1 w2 from gJ (k:=1) K);have a0:=O a9;clear a9 K;(try simp only[V]);refine gP (fun u f=>?_);go_simp;refine(qA t false h.num ((g.den:Nat):Int) a' b n' m c' d w2 (by exact(H.n.go o).go j) (by exact(F.d.go o).go j) b6).mono ?_;rintro e w3 ⟨s3,a3,n3,c3,rfl,b0,B,_⟩;refine f _ _ B ?_;clear f u;have A:=O (a0.go B);have a1:=O b0;have q:=O (j.trans (B.mono j.size));clear b0 B a0 j;(try simp only[V]);refine gP (fun u f=>?_);go_simp;refine(EJ s2 s3 (g.num*((h.den:Nat):Int)) (h.num*((g.den:Nat):Int)) a2 a3 n2 n3 c2 c3 w3 (by exact A) (by exact a1) (by have:=b7.out;omega)).mono ?_;rintro e w4 ⟨sQ,aQ,nQ,cQ,rfl,b1,l⟩;refine f _ _ l ?_;clear f u;have a7:=O b1;have i:=O (q.trans (l.mono q.size));clear b1 l A a1 q;(try simp only[V]);refine gP (fun u f=>?_);go_simp;refine(qA false false ((g.den:Nat):Int) ((h.den:Nat):Int) b b' m m' d d' w4 (by exact(F.d.go o).go i) (by exact(H.d.go o).go i) (by rw[<- bW,aB];have:=a8.out;omega)).mono ?_;rintro e w5 ⟨s5,a5,n5,c5,rfl,D,C,_⟩;refine f _ _ C ?_;clear f u;rw[<- bW]at D
 have c7:s5=false:=by rw[D.1];exact aw (Int.not_lt.2 (dP _))
 subst c7;have P:=O (a7.go C);have a6:=O D;have r:=O (i.trans (C.mono i.size));clear D C a7 i;(try simp only[V]);refine gP (fun u f=>?_);go_simp;refine(sD sQ (g.num*h.den+h.num*g.den) (g.den*h.den) aQ a5 nQ n5 cQ c5 w5 (by exact P) (by exact a6) c6 (by have:=mW a6;rw[aB]at this;have:=a8.out;omega)).mono ?_;rintro e w6 ⟨s4,Q,n4,c4,b4,X,d4,rfl,M,L,l,f4,g4⟩;refine f _ _ l ?_;clear f u;rw[b8]at M L;have x:=r.trans (l.mono r.size);have h2:=(x.block _ l2).trans N;have E:=r.size;have F4:=O (f4.mono E);have G4:=O (g4.mono E);have b9:=O M;have b3:=O L;have i:=O x;clear M L l x f4 g4 N;obtain⟨d0,d1,d2,d3⟩:=gL h2;have f0:=gD h2 0;have f1:=gD h2 1;have f2:=gD h2 2;have f3:=gD h2 3;have N:=O h2;clear h2;(try simp only[V]);refine iu rfl ?_;go_wp2_with fail;have S:=kl (s':=s4) (a':=Q) (n':=n4) (c':=c4) (t':=false) (b':=b4) (m':=X) (d':=d4) N;obtain⟨k0,k1,T,k3⟩:=gL S;refine ar (v:=.agg #[s4,Z Q n4 c4,false,Z b4 X d4]) ?_ rfl ?_
 .simp[results,results217,go_sem,k0,k1,T,k3]
 .have o4:mx w (w+3) Q n4:=mx.ofFresh (F4.mono (by omega))
  have o5:mx w (w+3) b4 X:=mx.ofFresh (G4.mono (by omega));exact⟨s4,Q,n4,c4,b4,X,d4,rfl,qY b9 o4 (show w.heap.size<=w.heap.size+2 by omega) (by omega),qY b3 o5 (show w.heap.size<=w.heap.size+2 by omega) (by omega),iR (o.trans (i.mono (by omega))) (by omega),F4.mono (by omega),G4.mono (by omega)⟩
def wj(w:World)(r:Rat)(e:Ending)(w':World):Prop:=
 ∃s a n c b m d,e=.returned (.tuple #[.agg #[.bool s,Z a n c,false,Z b m d],oZ])/\QL w' w' s a n c b m d r/\Below w w w'/\kS w a n/\kS w b m
def Bh(w:World)(r:Rat)(e:Ending)(w':World):Prop:=
 ∃s a n c b m d,e=.returned (.agg #[.bool s,Z a n c,false,Z b m d])/\QL w' w' s a n c b m d r/\Below w w w'
def QL.put{w:World}{s:Bool}{a:Option Addr}{n c:Nat}{b:Option Addr}{m d N M e:Nat}{r:Rat}{u v u2 v2:Value}(h:QL w w s a n c b m d r)(f:mx N M a n)(g:mx N M b m)(h1:N<=e)(h2:e<M):
 QL ((((w.setCell (J e) u).setCell ⟨e,1,none⟩ v).setCell ⟨e,2,none⟩ u2).setCell ⟨e,3,none⟩ v2).heap.size ((((w.setCell (J e) u).setCell ⟨e,1,none⟩ v).setCell ⟨e,2,none⟩ u2).setCell ⟨e,3,none⟩ v2) s a n c b m d r:=⟨qY h.n f h1 h2,qY h.d g h1 h2⟩
def M6(k l:Rat)(k1 k2:Nat)(s t:Bool)(a b a' b':Option Addr)(n m c d n' m' c' d':Nat)(w:World)(h1:QL w w s a n c b m d k)(h2:QL w w t a' n' c' b' m' d' l)(M:Sz k1 k)(N:Sz k2 l)(hk:k1+k2<=599):
 Calls prog 135 #[.agg #[s,Z a n c,false,Z b m d],.agg #[t,Z a' n' c',false,Z b' m' d']] w (wj w (k*l)):=by
 have a6:=h1.m M;have a7:=h2.m N;obtain⟨i0,i1,i2⟩:=jh w (.cells #[s,Z a n c,false,Z b m d] 180) (.cells #[t,Z a' n' c',false,Z b' m' d'] 180) (.cells #[false,oN,false,oN] 180);have j:=O (oF w (.cells #[s,Z a n c,false,Z b m d] 180) (.cells #[t,Z a' n' c',false,Z b' m' d'] 180) (.cells #[false,oN,false,oN] 180));have I0:=O i0;have I1:=O i1;have I2:=O i2;have P:=O h1;have Q:=O h2;have Z1:=O M;have Z2:=O N;have HR:=O (fun(W:World)(g1:QL W W s a n c b m d k)(g2:QL W W t a' n' c' b' m' d' l)=>KD k l k1 k2 s t a b a' b' n m c d n' m' c' d' W g1 g2 M N hk);clear i0 i1 i2 h1 h2 M N;generalize k*l=R at*;go_enter func135,ntmps135;go_upto_region 1 with fail;refine jp (fun L=>pO L w s a n c false b m d/\pO L (w+1) t a' n' c' false b' m' d'/\pO L (w+2) false none 0 0 false none 0 0/\Below w w L) ⟨I0,I1,I2,j⟩ ?_;clear I0 I1 I2 j;rintro K ⟨H,j1,h,hb⟩;have l0:=TK H;have l1:=TK j1;have l2:=TK h;obtain⟨c0,c1,c2,c3⟩:=gL H;have J0:=O H;have J1:=O j1;have J2:=O h;have j:=O hb;clear H j1 h hb;go_wp2_with fail;refine(mF k s a b n m c d _ (by exact P.go j) (by omega)).mono ?_;rintro e w2 ⟨rfl,x⟩;obtain⟨e0,e1,e2,e3⟩:=gL ((x.block _ l1).trans J1);have o:=O x;clear x c0 c1 c2 c3;go_wp2_with fail;refine(mF l t a' b' n' m' c' d' _ (by exact(Q.go j).go o) (by omega)).mono ?_;rintro e w3 ⟨rfl,X⟩;have g:Below K K w3:=o.trans (X.mono o.size);obtain⟨c0,c1,c2,c3⟩:=gL ((g.block _ l0).trans J0);obtain⟨d0,d1,d2,d3⟩:=gL ((g.block _ l1).trans J1);have f:=O g;clear X g e0 e1 e2 e3 o;go_wp2_with fail;refine(HR _ (by exact(P.go j).go f) (by exact(Q.go j).go f)).mono ?_;rintro e w4 ⟨B,p,r,c4,b4,q,u,rfl,A,z,a0,f4,g4⟩;have F:=A.2.2;have E:=z.2.2;have T:=O (show QL w4 w4 B p r c4 b4 q u R from⟨A,z⟩);have S:=O a0;have F4:=O f4;have G4:=O g4;clear A z a0 f4 g4 c0 c1 c2 c3 d0 d1 d2 d3;go_wp2_with fail;refine(zF B false p b4 r q c4 u w4 F E).mono ?_;rintro e w5 ⟨rfl,y⟩;have i:Below K K w5:=(f.trans (S.mono f.size)).trans (y.mono (by have:=f.size;have:=S.size;omega));have a5:=f.size;have h:=(i.block _ l2).trans J2;have a1:=O (T.go y);have C:=O i;clear y i T;obtain⟨d0,d1,d2,d3⟩:=gL h;have f0:=gD h 0;have f1:=gD h 1;have f2:=gD h 2;have f3:=gD h 3;have H2:=O h;clear h;go_wp2_with fail;have D:=kl (s':=B) (a':=p) (n':=r) (c':=c4) (t':=false) (b':=b4) (m':=q) (d':=u) H2;obtain⟨k0,a2,a3,k3⟩:=gL D;refine ar (v:=.tuple #[.agg #[B,Z p r c4,false,Z b4 q u],oZ]) ?_ rfl ?_
 .simp[results,results135,go_sem,k0,a2,a3,k3]
 .have o4:mx w (w+3) p r:=mx.ofFresh (F4.mono (by omega))
  have o5:mx w (w+3) b4 q:=mx.ofFresh (G4.mono (by omega));exact⟨B,p,r,c4,b4,q,u,rfl,a1.put o4 o5 (show w.heap.size<=w.heap.size+2 by omega) (by omega),iR (j.trans (C.mono (by omega))) (by omega),F4.mono (by omega),G4.mono (by omega)⟩
def M7(k l:Rat)(k1 k2:Nat)(s t:Bool)(a b a' b':Option Addr)(n m c d n' m' c' d':Nat)(w:World)(h1:QL w w s a n c b m d k)(h2:QL w w t a' n' c' b' m' d' l)(M:Sz k1 k)(N:Sz k2 l)(hk:k1+k2<=598):
 Calls prog 180 #[.agg #[s,Z a n c,false,Z b m d],.agg #[t,Z a' n' c',false,Z b' m' d']] w (wj w (k+l)):=by
 have a6:=h1.m M;have a7:=h2.m N;obtain⟨i0,i1,i2⟩:=jh w (.cells #[s,Z a n c,false,Z b m d] 180) (.cells #[t,Z a' n' c',false,Z b' m' d'] 180) (.cells #[false,oN,false,oN] 180);have j:=O (oF w (.cells #[s,Z a n c,false,Z b m d] 180) (.cells #[t,Z a' n' c',false,Z b' m' d'] 180) (.cells #[false,oN,false,oN] 180));have I0:=O i0;have I1:=O i1;have I2:=O i2;have P:=O h1;have Q:=O h2;have Z1:=O M;have Z2:=O N;have HR:=O (fun(W:World)(g1:QL W W s a n c b m d k)(g2:QL W W t a' n' c' b' m' d' l)=>M4 k l k1 k2 s t a b a' b' n m c d n' m' c' d' W g1 g2 M N hk);clear i0 i1 i2 h1 h2 M N;generalize k+l=R at*;go_enter func180,ntmps180;go_upto_region 1 with fail;refine jp (fun L=>pO L w s a n c false b m d/\pO L (w+1) t a' n' c' false b' m' d'/\pO L (w+2) false none 0 0 false none 0 0/\Below w w L) ⟨I0,I1,I2,j⟩ ?_;clear I0 I1 I2 j;rintro K ⟨H,j1,h,hb⟩;have l0:=TK H;have l1:=TK j1;have l2:=TK h;obtain⟨c0,c1,c2,c3⟩:=gL H;have J0:=O H;have J1:=O j1;have J2:=O h;have j:=O hb;clear H j1 h hb;go_wp2_with fail;refine(mF k s a b n m c d _ (by exact P.go j) (by omega)).mono ?_;rintro e w2 ⟨rfl,x⟩;obtain⟨e0,e1,e2,e3⟩:=gL ((x.block _ l1).trans J1);have o:=O x;clear x c0 c1 c2 c3;go_wp2_with fail;refine(mF l t a' b' n' m' c' d' _ (by exact(Q.go j).go o) (by omega)).mono ?_;rintro e w3 ⟨rfl,X⟩;have g:Below K K w3:=o.trans (X.mono o.size);obtain⟨c0,c1,c2,c3⟩:=gL ((g.block _ l0).trans J0);obtain⟨d0,d1,d2,d3⟩:=gL ((g.block _ l1).trans J1);have f:=O g;clear X g e0 e1 e2 e3 o;go_wp2_with fail;refine(HR _ (by exact(P.go j).go f) (by exact(Q.go j).go f)).mono ?_;rintro e w4 ⟨B,p,r,c4,b4,q,u,rfl,A,z,a0,f4,g4⟩;have F:=A.2.2;have E:=z.2.2;have T:=O (show QL w4 w4 B p r c4 b4 q u R from⟨A,z⟩);have S:=O a0;have F4:=O f4;have G4:=O g4;clear A z a0 f4 g4 c0 c1 c2 c3 d0 d1 d2 d3;go_wp2_with fail;refine(zF B false p b4 r q c4 u w4 F E).mono ?_;rintro e w5 ⟨rfl,y⟩;have i:Below K K w5:=(f.trans (S.mono f.size)).trans (y.mono (by have:=f.size;have:=S.size;omega));have a5:=f.size;have h:=(i.block _ l2).trans J2;have a1:=O (T.go y);have C:=O i;clear y i T;obtain⟨d0,d1,d2,d3⟩:=gL h;have f0:=gD h 0;have f1:=gD h 1;have f2:=gD h 2;have f3:=gD h 3;have H2:=O h;clear h;go_wp2_with fail;have D:=kl (s':=B) (a':=p) (n':=r) (c':=c4) (t':=false) (b':=b4) (m':=q) (d':=u) H2;obtain⟨k0,a2,a3,k3⟩:=gL D;refine ar (v:=.tuple #[.agg #[B,Z p r c4,false,Z b4 q u],oZ]) ?_ rfl ?_
 .simp[results,results180,go_sem,k0,a2,a3,k3]
 .have o4:mx w (w+3) p r:=mx.ofFresh (F4.mono (by omega))
  have o5:mx w (w+3) b4 q:=mx.ofFresh (G4.mono (by omega));exact⟨B,p,r,c4,b4,q,u,rfl,a1.put o4 o5 (show w.heap.size<=w.heap.size+2 by omega) (by omega),iR (j.trans (C.mono (by omega))) (by omega),F4.mono (by omega),G4.mono (by omega)⟩
def Iu:Option Nat->Int
 |none=> -1
 |some p=>(p:Int)
def yM(T:List UInt8)(w:World)(d c:Value)(e:World):Prop:=
 ∃b a,nP 0 none 32 T=(b,a)/\d=.int .i64 (Iu b)/\c=.int .i32 a/\(∀p,b=some p->p<T.length)/\0<=a/\a<=255/\Below w w e
def PS(T:List UInt8)(w:World)(d c:Value)(wr:World):Prop:=
 ∃(k:Nat)(b:Option Nat)(a:Int),k<=T.length/\wr=w.iter (bs T) k/\d=.int .i64 (Iu b)/\c=.int .i32 a/\nP k b a (T.drop k)=nP 0 none 32 T/\(∀p,b=some p->p<k)/\0<=a/\a<=255
def JH(l:List UInt8):Int:=match li l with
 |none=>0
 |some p=>(p:Int)
def JI(l:List UInt8):Bool:=(li l).isSome
def Dx(w:World)(l:List UInt8)(e:Ending)(w':World):Prop:=e=.returned (.tuple #[.int .i64 (JH l),.bool (JI l)])/\Below w w w'
def Lg{b:UInt8}{l:List UInt8}(hb:b≠45):oS (b::l)=(false,b::l):=by
 unfold oS;split
 .rename_i h;cases h;exact absurd rfl hb
 .rfl
def wC(l:List UInt8):Lib.trimPrefix l [45]=(oS l).2:=by
 cases l with
 |nil=>rfl
 |cons b l=>
  by_cases hb:b=45
  .subst hb;rfl
  .have:Lib.hasPrefix (b::l) [45]=false:=by
    show((45:UInt8)==b&&_)=false
    rw[cL];exact VR (ak.2 (fun e=>hb e.symm))
   unfold Lib.trimPrefix;rw[this,Lg hb];rfl
def JJ{x:Int}(h:x<48\/57<x):Ak x=false:=aw (by omega)
def Dy(T:List UInt8):Option Nat->List UInt8
 |none=>T
 |some p=>T.take p
def JK(T:List UInt8):Option Nat->Nat
 |none=>0
 |some p=>T.length-p-1
def Rz(T:List UInt8)(b:Option Nat)(a:Int):WL T (b,a)=if Ak a=false\/(b≠none/\a=48)then none else if 1<(Dy T b).length/\(Dy T b).head?=some 48 then none else some (JK T b):=by
 cases b<;>rfl
def Ft(l:List UInt8)(w:World)(hl:l.length<=1000000):Calls prog 232 #[.string (bs l)] w (Dx w l):=by
 have c6:(oS l).2.length<=1000000:=by unfold oS;split<;>simp at hl⊢ <;>omega
 have c1:=O (wC l);generalize hT:(oS l).2=T at*;have HT:=O hT;clear hT;have d5:(bs T).size=T.length:=rfl;go_enter func232,ntmps232;go_wp2_with fail;go_step3;go_wp2_with fail;refine(tX l [45] _).mono ?_;rintro e w1 ⟨rfl,rfl⟩;rw[c1];go_wp2_with fail;go_step3
 go_upto_block 0 with fail
 go_cut [5,6] (fun pv lv wx=>yM T w pv lv wx)
 case first=>
  go_wp2
  go_loopw [5,6] (fun pv lv wr=>PS T w pv lv wr) (fun _ _ wr=>T.length-wr.iterPos w)
  case atStart=>exact⟨0,none,32,aA _,rfl,rfl,rfl,rfl,(fun _ h=>by cases h),by omega,by omega⟩
  case round=>
   obtain⟨k,c,a,hk,rfl,rfl,rfl,g,j,b5,b6⟩:=hrel;have c7:Below w w (w.iter (bs T) k):=(TH _ _).alloc (ag _) _;by_cases hlt:k<T.length
   .have z:k<(bs T).size:=hlt
    have s:(bs T)[k]=T[k]:=rfl
    have i:T.drop k=T[k]::T.drop (k+1):=by rw[dG hlt]
    by_cases K:T[k].toNat<128
    .have a3:=fun ty=>run_next_ascii (P:=prog) w (bs T) k ty z K
     simp only[s]at a3;rw[i,nP]at g;have S:=O g;have b1:=O j;clear g j s i
     have c9:(0:Int)<=(T[k].toNat:Int):=by omega
     have d0:(T[k].toNat:Int) <128:=by omega
     by_cases d:T[k]=46/\c=none/\0<k
     .have h1:=S.out
      rw[aq d]at h1;obtain⟨hd,rfl,b4⟩:=d
      have hi:((T[k].toNat:Int)==46)=true:=by rw[hd];rfl
      have A:(T[k].toNat:Int)=46:=by rw[hd];rfl
      rw[show Iu none= -1 from rfl];have H1:=O h1;have Q:=O A;clear h1 hd A;go_wp2
      go_roundw
      case rel=>exact⟨k+1,some k,46,by omega,rfl,rfl,by rw[Q],H1,fun p o=>by cases o;omega,by omega,by omega⟩
      case measure=>simp[World.iterPos_iter];omega
     .by_cases y:ma T[k]=true
      .have h1:=S.out
       rw[aj d,aq y]at h1;have a7:=bZ y
       have hi:((T[k].toNat:Int)==46)=false:=by simp;omega
       have X:¬(T[k].toNat:Int) <48:=by omega
       have b3:¬57<(T[k].toNat:Int):=by omega
       have H1:=O h1;clear h1 y a7 d;go_wp2
       go_roundw
       case rel=>exact⟨k+1,c,_,by omega,rfl,rfl,rfl,H1,fun p o=>by have:=b1 p o;omega,by omega,by omega⟩
       case measure=>simp[World.iterPos_iter];omega
      .have h1:=S.out
       rw[aj d,aj y]at h1
       have a2:¬(48<=T[k].toNat/\T[k].toNat<=57):=fun h=>y (aP h)
       have hcut:yM T w (.int .i64 (Iu c)) (.int .i32 32) (w.iter (bs T) (k+1)):=⟨c,32,h1.symm,rfl,rfl,fun p o=>by have:=b1 p o;omega,by omega,by omega,(TH _ _).alloc (ag _) _⟩;have b:=O hcut;clear h1 hcut y;by_cases b2:T[k].toNat=46
       .have A:T[k]=46:=fN.1 (by rw[b2];rfl)
        have hi:((T[k].toNat:Int)==46)=true:=by simp;omega
        have X:(T[k].toNat:Int) <48:=by omega
        have a4:=O d;have Q:=O A;clear d A b2 a2
        cases c with
        |some p=>
         rw[show Iu (some p)=(p:Int)from rfl]at b;rw[show Iu (some p)=(p:Int)from rfl]
         have c5:¬(p:Int) <0:=by omega
         go_wp2;go_meet;exact b
        |none=>
         have b4:k=0:=by
          obtain h|h:=cM k
          .exact h
          .exact absurd ⟨Q,rfl,h⟩ a4
         rw[show Iu none= -1 from rfl]at b;rw[show Iu none= -1 from rfl]
         have d2:¬(0:Int) <(k:Int):=by omega
         clear b4;go_wp2;go_meet;exact b
       .have hi:((T[k].toNat:Int)==46)=false:=by simp;omega
        clear d;by_cases X:(T[k].toNat:Int) <48
        .clear a2
         go_wp2;go_meet;exact b
        .have b3:57<(T[k].toNat:Int):=by omega
         clear a2;go_wp2;go_meet;exact b
    .have a3:=fun ty=>run_next_any (P:=prog) w (bs T) k ty z
     have a1:=decode_high (bs T) k z (by rw[s];omega);have c3:=decode_le (bs T) k;rw[i,nP,aj (fun e=>K (by rw[e.1];decide)),aj (fun e=>by have:=bZ e;omega)]at g;generalize Utf8.decode (bs T) k=q at*;obtain⟨r,n⟩:=q
     have d4:(128:Int)<=(r:Int):=by have:=a1.1;simp at this;omega
     have hcut:yM T w (.int .i64 (Iu c)) (.int .i32 32) (w.iter (bs T) (k+n)):=⟨c,32,g.symm,rfl,rfl,fun p o=>by have:=j p o;omega,by omega,by omega,(TH _ _).alloc (ag _) _⟩;have b:=O hcut
     have hi:((r:Int)==46)=false:=by simp;omega
     have X:¬(r:Int) <48:=by omega
     have b3:57<(r:Int):=by omega
     clear g hcut j s i a1 c3;go_wp2;go_meet;exact b
   .have a3:=fun ty=>run_next_end (P:=prog) w (bs T) k ty hlt
    rw[gp (by omega),nP]at g;have hcut:yM T w (.int .i64 (Iu c)) (.int .i32 a) (w.iter (bs T) k):=⟨c,a,g.symm,rfl,rfl,fun p o=>by have:=j p o;omega,b5,b6,(TH _ _).alloc (ag _) _⟩;have b:=O hcut;clear g hcut j;go_wp2;go_meet;exact b
 case rest=>
  obtain⟨c,a,g,rfl,rfl,j,b5,b6,b0:HQ _⟩:=hcut;have hv:=Lf T;rw[g]at hv
  have a0:li l=if l=[45,48]then none else YT T:=by rw[<- HT];rfl
  rw[<- hv]at a0;have v:=O a0;clear hv g a0;have hW:∃W P,W=Dy T c/\P=JK T c:=⟨_,_,rfl,rfl⟩;obtain⟨W,P,hW,HP:HQ _⟩:=hW;have HW:=O hW
  have c8:W.length<=1000000:=by
   rw[hW];cases c with
   |none=>exact c6
   |some p=>simp[Dy];omega
  clear hW
  go_upto_if 40 with fail
  go_cut [2,9] (fun v2 v9 wx=>v2=.int .i64 (P:Int)/\v9=.string (bs W)/\wx=wc)
  case first=>
   cases c with
   |none=>
    rw[show Iu none= -1 from rfl];go_wp2;go_meet;exact⟨by rw[HP];rfl,by rw[HW];rfl,rfl⟩
   |some p=>
    have o:=j p rfl;rw[show Iu (some p)=(p:Int)from rfl]
    have e2:(bs T).extract 0 p=bs (T.take p):=by rw[sR,dW,gk]
    have e3:(T.length:Int)-(p:Int)-1=((T.length-p-1:Nat):Int):=by omega
    have e4:0<=(T.length:Int)-(p:Int):=by omega
    clear j;go_wp2;go_meet;exact⟨by rw[HP];rfl,by rw[HW];rfl,rfl⟩
  case rest=>
   obtain⟨rfl,rfl,rfl⟩:=hcut
   have b8:WL T (c,a)=if Ak a=false\/(c≠none/\a=48)then none else if 1<W.length/\W.head?=some 48 then none else some P:=by
    rw[HW,HP];exact Rz T c a
   have b7:li l=none->Dx w l (.returned (.tuple #[oZ,false])) wc:=fun h=>⟨by unfold JH JI;rw[h];rfl,b0⟩
   have x:=O b7;have D:=O b8;clear b7 b8 HW HP j;by_cases d3:a<48
   .have u:li l=none:=by
     have h1:=v.out;rw[D,aq (VR (JJ (by omega)))]at h1;rw[h1];split<;>rfl
    have t:=O u;clear u;go_wp2_with fail
    try rw[dd]
    go_ret2;exact x t
   .by_cases a1:57<a
    .have u:li l=none:=by
      have h1:=v.out;rw[D,aq (VR (JJ (by omega)))]at h1;rw[h1];split<;>rfl
     have t:=O u;clear u;go_wp2_with fail
     try rw[dd]
     go_ret2;exact x t
    .have c0:=O (show Ak a=true from aP (by omega))
     by_cases hz:c≠none/\a=48
     .have u:li l=none:=by
       have h1:=v.out;rw[D,aq (VS hz)]at h1;rw[h1];split<;>rfl
      obtain⟨o,rfl⟩:=hz
      have c5:0<=Iu c:=by
       cases c with
       |none=>exact absurd rfl o
       |some p=>exact dP p
      have t:=O u;clear u o;go_wp2_with fail
      try rw[dd]
      go_ret2;exact x t
     .have M:WL T (c,a)=if 1<W.length/\W.head?=some 48 then none else some P:=by
       rw[D,aj];rintro(h|h)
       .rw[c0]at h;cases h
       .exact hz h
      have E:=O M;clear M
      have f:(Iu c<0)\/(0<=Iu c/\(a==48)=false):=by
       cases c with
       |none=>exact VR (by show(-1:Int) <0;omega)
       |some p=>exact VS ⟨dP p,by rw[ak];exact fun e=>hz ⟨by simp,e⟩⟩
      clear hz
      have N:W.length<=1\/(∃h:0<W.length,W[0].toNat≠48)->l≠[45,48]->Dx w l (.returned (.tuple #[.int .i64 (P:Int),true])) wc:=fun hw c4=>by
       have a8:¬(1<W.length/\W.head?=some 48):=by
        rintro⟨h2,h3⟩
        obtain h|⟨h0,h⟩:=hw
        .omega
        .rw[gm,ae h0]at h3
         exact h (by rw[aE h3];rfl)
       have h1:=v.out;rw[aj c4,E,aj a8]at h1;refine⟨?_,b0⟩;unfold JH JI;rw[h1];rfl
      have L:l=[45,48]->li l=none:=fun h=>by
       have h1:=v.out;rw[aq h]at h1;exact h1
      have F:=O N;have C:=O L;clear N L;by_cases c2:1<W.length
      .have d1:(bs W)[0]'(by show 0<W.length;omega)=W[0]:=rfl
       have b9:0<W.length:=by omega
       by_cases B:W[0].toNat=48
       .have u:li l=none:=by
         have a9:1<W.length/\W.head?=some 48:=⟨c2,by rw[gm,ae b9];exact ai some (fN.1 B)⟩;have h1:=v.out;rw[E,aq a9]at h1;rw[h1];split<;>rfl
        have t:=O u;clear u
        have H:1<(W.length:Int):=by omega
        have a5:((W[0].toNat:Int)==48)=true:=by simp;omega
        obtain hw|⟨hw,hw2⟩:=f
        all_goals
         clear B;go_wp2_with fail
         try rw[dd]
         go_ret2;exact x t
       .have Hy:=O (F (VS ⟨b9,B⟩))
        have H:1<(W.length:Int):=by omega
        have a5:((W[0].toNat:Int)==48)=false:=by simp;omega
        by_cases m:l=[45,48]
        .have t:=O (C m)
         subst m
         obtain hw|⟨hw,hw2⟩:=f
         all_goals
          clear B;go_wp2_with fail
          try rw[dd]
          go_ret2;exact x t
        .have R:=O m
         have a6:(l==[45,48])=false:=by rw[ak];exact m
         obtain hw|⟨hw,hw2⟩:=f
         all_goals
          clear B;go_wp2_with fail
          try rw[dd]
          go_ret2;exact Hy R
      .have Hy:=O (F (VR (by omega)))
       have H:¬1<(W.length:Int):=by omega
       by_cases m:l=[45,48]
       .have t:=O (C m)
        subst m
        obtain hw|⟨hw,hw2⟩:=f
        all_goals
         go_wp2_with fail
         try rw[dd]
         go_ret2;exact x t
       .have R:=O m
        have a6:(l==[45,48])=false:=by rw[ak];exact m
        obtain hw|⟨hw,hw2⟩:=f
        all_goals
         go_wp2_with fail
         try rw[dd]
         go_ret2;exact Hy R
def nM(p q:Rat)(k1 B:Nat)(s t:Bool)(a b a' b':Option Addr)(n m c d n' m' c' d':Nat)(w:World)(h1:QL w w s a n c b m d p)(h2:QL w w t a' n' c' b' m' d' q)(T:Sz k1 p)(W:Sz B q)(hk:k1+B<=599):
 Calls prog 94 #[.agg #[s,Z a n c,false,Z b m d],.agg #[t,Z a' n' c',false,Z b' m' d']] w (Bh w (p*q)):=by
 obtain⟨I0:HQ _,I1:HQ _,I2:HQ _⟩:=jh w (.cells #[s,Z a n c,false,Z b m d] 180) (.cells #[t,Z a' n' c',false,Z b' m' d'] 180) (.cells #[false,oN,false,oN] 180);have hb:=oF w (.cells #[s,Z a n c,false,Z b m d] 180) (.cells #[t,Z a' n' c',false,Z b' m' d'] 180) (.cells #[false,oN,false,oN] 180);have A:=O hb;have F:=O (M6 p q k1 B s t a b a' b' n m c d n' m' c' d' _ (h1.go hb) (h2.go hb) T W hk);clear hb h1 h2 T W;generalize p*q=R at*;go_enter func94,ntmps94;go_wp2_with fail;refine F.mono ?_;rintro e g ⟨r,h,j,c4,b4,i,o,rfl,z,k,M,N⟩
 have a0:w.heap.size+3<=g.heap.size:=by have:=k.size;simp at this;omega
 have f:=(k.block (w+2) (by simp)).trans I2;have y:Below w w g:=A.trans (k.mono A.size);have C:kS (w+3) h j:=M.mono (by simp);have E:=O (show kS (w+3) b4 i from N.mono (by simp));have K:=O z;have L:=O f;have H:=O y;have D:=O C;clear z k M N f y C I0 I1 I2 A F;go_upto_region 2 with fail;have x:=(TH g g).alloc (ag _) (.cells #[r,Z h j c4,false,Z b4 i o] 180);refine jp (fun S=>pO S g r h j c4 false b4 i o/\Below g g S) ⟨TL g _,x⟩ ?_;clear x;rintro w2 ⟨h5,l:HQ _⟩;obtain⟨c0,c1,c2,c3⟩:=gL h5;have f:=(l.block _ (TK L)).trans L;obtain⟨d0,d1,d2,d3⟩:=gL f;have f0:=gD f 0;have f1:=gD f 1;have f2:=gD f 2;have f3:=gD f 3;have X:=O f;clear f h5;go_wp2_with fail;have u:=kl (s':=r) (a':=h) (n':=j) (c':=c4) (t':=false) (b':=b4) (m':=i) (d':=o) X;obtain⟨k0,P,Q,k3⟩:=gL u;refine ar (v:=.agg #[r,Z h j c4,false,Z b4 i o]) ?_ rfl ?_
 .simp[results,results94,go_sem,k0,P,Q,k3]
 .have o4:mx w (w+3) h j:=mx.ofFresh D
  have o5:mx w (w+3) b4 i:=mx.ofFresh E;exact⟨r,h,j,c4,b4,i,o,rfl,(K.go l).put o4 o5 (show w.heap.size<=w.heap.size+2 by omega) (by omega),iR (H.trans (l.mono (by omega))) (by omega)⟩
def tR(p q:Rat)(k1 B:Nat)(s t:Bool)(a b a' b':Option Addr)(n m c d n' m' c' d':Nat)(w:World)(h1:QL w w s a n c b m d p)(h2:QL w w t a' n' c' b' m' d' q)(T:Sz k1 p)(W:Sz B q)(hk:k1+B<=598):
 Calls prog 131 #[.agg #[s,Z a n c,false,Z b m d],.agg #[t,Z a' n' c',false,Z b' m' d']] w (Bh w (p+q)):=by
 obtain⟨I0:HQ _,I1:HQ _,I2:HQ _⟩:=jh w (.cells #[s,Z a n c,false,Z b m d] 180) (.cells #[t,Z a' n' c',false,Z b' m' d'] 180) (.cells #[false,oN,false,oN] 180);have hb:=oF w (.cells #[s,Z a n c,false,Z b m d] 180) (.cells #[t,Z a' n' c',false,Z b' m' d'] 180) (.cells #[false,oN,false,oN] 180);have A:=O hb;have F:=O (M7 p q k1 B s t a b a' b' n m c d n' m' c' d' _ (h1.go hb) (h2.go hb) T W hk);clear hb h1 h2 T W;generalize p+q=R at*;go_enter func131,ntmps131;go_wp2_with fail;refine F.mono ?_;rintro e g ⟨r,h,j,c4,b4,i,o,rfl,z,k,M,N⟩
 have a0:w.heap.size+3<=g.heap.size:=by have:=k.size;simp at this;omega
 have f:=(k.block (w+2) (by simp)).trans I2;have y:Below w w g:=A.trans (k.mono A.size);have C:kS (w+3) h j:=M.mono (by simp);have E:=O (show kS (w+3) b4 i from N.mono (by simp));have K:=O z;have L:=O f;have H:=O y;have D:=O C;clear z k M N f y C I0 I1 I2 A F;go_upto_region 2 with fail;have x:=(TH g g).alloc (ag _) (.cells #[r,Z h j c4,false,Z b4 i o] 180);refine jp (fun S=>pO S g r h j c4 false b4 i o/\Below g g S) ⟨TL g _,x⟩ ?_;clear x;rintro w2 ⟨h5,l:HQ _⟩;obtain⟨c0,c1,c2,c3⟩:=gL h5;have f:=(l.block _ (TK L)).trans L;obtain⟨d0,d1,d2,d3⟩:=gL f;have f0:=gD f 0;have f1:=gD f 1;have f2:=gD f 2;have f3:=gD f 3;have X:=O f;clear f h5;go_wp2_with fail;have u:=kl (s':=r) (a':=h) (n':=j) (c':=c4) (t':=false) (b':=b4) (m':=i) (d':=o) X;obtain⟨k0,P,Q,k3⟩:=gL u;refine ar (v:=.agg #[r,Z h j c4,false,Z b4 i o]) ?_ rfl ?_
 .simp[results,results131,go_sem,k0,P,Q,k3]
 .have o4:mx w (w+3) h j:=mx.ofFresh D
  have o5:mx w (w+3) b4 i:=mx.ofFresh E;exact⟨r,h,j,c4,b4,i,o,rfl,(K.go l).put o4 o5 (show w.heap.size<=w.heap.size+2 by omega) (by omega),iR (H.trans (l.mono (by omega))) (by omega)⟩
def Am:∀(A:List UInt8),(∀b∈A,b≠46)->Lib.index A [46]= -1
 |[],_=>rfl
 |b::A,h=>by
  have f:=Am A (fun c a=>h c (au _ a));have hb:=h b aG
  have d:([46]:List UInt8).isPrefixOf (b::A)=false:=by
   show((46:UInt8)==b&&_)=false
   rw[cL];exact VR (ak.2 (fun e=>hb e.symm))
  rw[Lib.index,d,f];rfl
def Cq:∀(A f:List UInt8),(∀b∈A,b≠46)->Lib.index (A++46::f) [46]=A.length
 |[],f,_=>rfl
 |b::A,f,h=>by
  have i:=Cq A f (fun c a=>h c (au _ a));have hb:=h b aG
  have g:([46]:List UInt8).isPrefixOf (b::(A++46::f))=false:=by
   show((46:UInt8)==b&&_)=false
   rw[cL];exact VR (ak.2 (fun e=>hb e.symm))
  have d:((A.length:Int)== -1)=false:=by rw[ak];omega
  rw[bF,Lib.index,g,i,d,aH];simp
def Dz{A:List UInt8}(h:∀b∈A,b≠46):Lib.replace A [46] [] 1=A:=by
 have hi:=Am A h;unfold Lib.replace;rw[aj (by decide)]
 cases Lib.replaceNum A [46] 1 with
 |zero=>rfl
 |succ k=>rw[Lib.replaceK,hi];rfl
def Fu{A f:List UInt8}(h:∀b∈A,b≠46):Lib.replace (A++46::f) [46] [] 1=A++f:=by
 have hi:=Cq A f h;unfold Lib.replace;rw[aj (by decide)];have c:=Lib.count_hit (s:=A++46::f) (sub:=[46]) (by simp) hi
 have a:Lib.replaceNum (A++46::f) [46] 1=1:=by
  unfold Lib.replaceNum;rw[aj (by omega)];rfl
 rw[a,Lib.replaceK_hit _ _ _ _ _ hi,Lib.replaceK];simp
def Bo{s:List UInt8}{p:Nat}(q:EH s p):Lib.replace s [46] [] 1=(if q.neg then[45]else[])++(q.w++q.f):=by
 have a:∀b∈ (if q.neg then[45]else([]:List UInt8))++q.w,b≠46:=by
  intro b hb
  obtain hb|hb:=bj.1 hb
  .split at hb
   .rw[aK.1 hb];decide
   .cases hb
  .have:=Qy (an.1 q.hw b hb)
   exact ak.1 this
 by_cases hf:q.f=[]
 .have e:s=(if q.neg then[45]else([]:List UInt8))++q.w:=by
   have:=q.eq;rw[aq hf,bG]at this;exact this
  rw[hf,bG,<- e];rw[<- e]at a;exact Dz a
 .have e:s=((if q.neg then[45]else([]:List UInt8))++q.w)++46::q.f:=by
   have:=q.eq;rw[aj hf,<- aC]at this;exact this
  have h2:=Fu (f:=q.f) a;rw[<- e]at h2;rw[h2,aC]
def Lh{s:List UInt8}{p:Nat}(q:EH s p):((if q.neg then[45]else([]:List UInt8))++(q.w++q.f)).length<=s.length:=by
 have h1:(if q.f=[]then([]:List UInt8)else 46::q.f).length=0/\q.f.length=0\/(if q.f=[]then([]:List UInt8)else 46::q.f).length=q.f.length+1:=by
  split
  .rename_i h;exact VR ⟨rfl,by rw[h];rfl⟩
  .exact VS rfl
 have h2:s.length=(if q.neg then[45]else([]:List UInt8)).length+(q.w.length+(if q.f=[]then([]:List UInt8)else 46::q.f).length):=(ai List.length q.eq).trans (by rw[al,al]);rw[al,al];omega
def DA(l:List UInt8)(d:Nat)(w:World)(hl:l.length<=100000)(hd:d<=18)(hg:GW w):
 Calls prog 211 #[.string (bs l),.int .i64 (d:Int)] w (Rx w l d):=by
 have a6:¬(d:Int) <0:=by omega
 have a7:¬18<(d:Int):=by omega
 have Hg:=O hg;clear hg;go_enter func211,ntmps211;go_wp2_with fail;refine(Ft l _ (by omega)).mono ?_;rintro e w1 ⟨rfl,n:HQ _⟩;have h:Fi l d=(match li l with|none=>0|some p=>if p<=d/\rP (wg l*10^(d-p))=true then wg l*10^(d-p)else 0):=rfl;have g:Fj l d=(match li l with|none=>5|some p=>if p<=d then(if rP (wg l*10^(d-p))=true then 0 else 6)else 5):=rfl;unfold JH JI
 cases hdf:li l with
 |none=>
  rw[hdf]at h g;have B:=O h;have z:=O g;clear h g hdf;simp only[Option.isSome_none];go_wp2;go_ret2;refine⟨?_,n⟩;rw[B,z];rfl
 |some p=>
  rw[hdf]at h g;obtain⟨q⟩:=GS hdf;have B:=O h;have z:=O g;clear h g hdf;simp only[Option.isSome_some];by_cases W:d<p
  .have K:(d:Int) <(p:Int):=by omega
   have a2:=O W;clear W;go_wp2;go_ret2;refine⟨?_,n⟩;have h1:=B.out;have h2:=z.out;have h3:=a2.out;rw[aj (by omega)]at h1 h2;rw[h1,h2];rfl
  .have K:¬(d:Int) <(p:Int):=by omega
   have v:=Bo q;have a8:=Lh q;have hat:=GT q (d-p);have k:=Hg.below n;generalize hA:(if q.neg then[45]else([]:List UInt8))++(q.w++q.f)=A at*
   have Q:(if q.neg then[45]else([]:List UInt8))++(q.w++q.f++List.replicate (d-p) 48)=A++List.replicate (d-p) 48:=by rw[<- hA];simp
   rw[Q]at hat;obtain⟨m,hm⟩:=k.m;have b:=Tryz.strings_Replace (bs l) (bs [46]) (bs []) 1 m w1 (by rw[lE];omega) hm (by rw[lE];decide) (by rw[lE,lE];simp;omega);rw[Db,Db,Db,v]at b;have y:=O b;have L:=O hat;have E:=O k;clear b hat k hm v hA Q q;go_wp2_with fail;refine y.mono ?_;rintro e w2 ⟨rfl,M:HQ _⟩;go_wp2_with fail
   have P:((d:Int)-(p:Int))=((d-p:Nat):Int):=by omega
   rw[P];refine(zY [48] (d-p) _ (by omega) (by simp)).mono ?_;rintro e D ⟨rfl,T⟩;rw[Af];have j:Below w1 w1 D:=M.trans (T.mono M.size);have u:=E.below j;have a0:=n.trans (j.mono n.size);have a3:({data:=A.toArray}:ByteArray)++bs (List.replicate (d-p) 48)=bs (A++List.replicate (d-p) 48):=oQ _ _
   have a5:(List.replicate (d-p) (48:UInt8)).length<=18:=by rw[dr];omega
   have a4:(A++List.replicate (d-p) (48:UInt8)).length<=100018:=by rw[al,dr];omega
   generalize hX:wg l*10^(d-p)=X at*;have HX:=O hX;have F:=O u;have s:=O a0;clear hX T j u a0 P
   have S:Fi l d=(if rP X then X else 0)/\Fj l d=(if rP X then 0 else 6):=by
    have h1:=B.out;have h2:=z.out
    have h3:p<=d:=by omega
    rw[aq h3]at h2;refine⟨?_,h2⟩;rw[h1];by_cases H:rP X=true
    .rw[aq ⟨h3,H⟩,aq H]
    .rw[aj (fun e=>H e.2),aj H]
   have r:=O S;clear S B z;generalize A++List.replicate (d-p) (48:UInt8)=AR at*;generalize List.replicate (d-p) (48:UInt8)=R at*;go_wp2_with fail;by_cases a:rP X=true
   .have hat:Lib.atoiAll (bs AR).data.toList=.ok X:=by
     have h1:=L.out;have h2:=bZ a;rw[aj (by omega)]at h1;exact h1
    have i:=O a;refine(Tryz.strconv_Atoi_ok (bs AR) (by rw[lE];omega) X hat D).mono ?_;rintro e w4 ⟨rfl,a1⟩
    have o:Below D D w4:=by
     obtain rfl|⟨t,rfl⟩:=a1
     .exact TH _ _
     .exact Lib.bytesWorld_below _ _ _
    have C:=O (s.trans (o.mono s.size));clear o a1 hat a;go_wp2;go_ret2;refine⟨?_,C⟩;rw[r.1,r.2,i];rfl
   .have c:rP X=false:=by simpa using a
    have hat:Lib.atoiAll (bs AR).data.toList=.range:=by
     have h1:=L.out;have h2:¬(-9223372036854775808<=X/\X<=9223372036854775807):=of_decide_eq_false c;rw[aq (by omega)]at h1;exact h1
    have i:=O c;obtain⟨tp,pv,x⟩:=F.rng;refine(Tryz.strconv_Atoi_range_var (bs AR) (by rw[lE];omega) hat tp pv D x).mono ?_;rintro e w4 ⟨N,rfl,-,-,o⟩;have C:=O (s.trans (o.mono s.size));clear o hat a c x;go_wp2;go_ret2;refine⟨?_,C⟩;rw[r.1,r.2,i];rfl
def KE(x:Int)(y:Nat)(s:Bool)(a b:Option Addr)(n m c d:Nat)(w:World)(ha:LG w w s a n c x)(o:LG w w false b m d (y:Int))(hy:0<y)(hm:m<=599):
 Calls prog 186 #[.agg #[s,Z a n c],.agg #[false,Z b m d]] w (wj w (mkRat x y)):=by
 have a3:((m:Int)==0)=false:=by
  have:=mW o;rw[aB]at this
  have h0:m≠0:=fun e=>by rw[e]at this;have:=jC.1 this.symm;omega
  simp;omega
 obtain⟨i0,i1,i2⟩:=jh w (.cells #[s,Z a n c] 178) (.cells #[false,Z b m d] 178) (.cells #[false,oN,false,oN] 180);have j:=O (oF w (.cells #[s,Z a n c] 178) (.cells #[false,Z b m d] 178) (.cells #[false,oN,false,oN] 180));have T:=O i0;have W:=O i1;have X:=O i2;have Q:=O ha;have R:=O o;clear i0 i1 i2 ha o;go_enter func186,ntmps186;go_upto_region 1 with fail;refine jp (fun D=>td D w s a n c/\td D (w+1) false b m d/\pO D (w+2) false none 0 0 false none 0 0/\Below w w D) ⟨T,W,X,j⟩ ?_;clear T W X j;rintro C ⟨A,L,h,hb⟩;have l0:=TK A;have l1:=TK L;have l2:=TK h;obtain⟨c0,c1,_,_⟩:=gQ A;have J0:=O A;have J1:=O L;have J2:=O h;have j:=O hb;clear A L h hb;go_wp2_with fail;refine(rN s x a n c _ (by exact Q.go j)).mono ?_;rintro e w2 ⟨rfl,p⟩;obtain⟨e0,e1,_,_⟩:=gQ ((p.block _ l1).trans J1);have k:=O p;clear p c0 c1;go_wp2_with fail;refine(rN false (y:Int) b m d _ (by exact(R.go j).go k)).mono ?_;rintro e w3 ⟨rfl,E⟩;have g:Below C C w3:=k.trans (E.mono k.size);obtain⟨c0,c1,_,_⟩:=gQ ((g.block _ l0).trans J0);obtain⟨d0,d1,_,_⟩:=gQ ((g.block _ l1).trans J1);have f:=O g;clear E g e0 e1 k;go_wp2_with fail;refine(sD s x y a b n m c d _ (by exact(Q.go j).go f) (by exact(R.go j).go f) hy hm).mono ?_;rintro e M ⟨B,l,r,c4,b4,q,u,rfl,K,H,F,f4,g4⟩;have i:Below C C M:=f.trans (F.mono f.size);have a2:=f.size;have h:=(i.block _ l2).trans J2;have S:=O (show QL M M B l r c4 b4 q u (mkRat x y)from⟨K,H⟩);have t:=O i;have N:=O f4;have P:=O g4;clear K H F f4 g4 i c0 c1 d0 d1;obtain⟨d0,d1,d2,d3⟩:=gL h;have f0:=gD h 0;have f1:=gD h 1;have f2:=gD h 2;have f3:=gD h 3;have H2:=O h;clear h;go_wp2_with fail;have z:=kl (s':=B) (a':=l) (n':=r) (c':=c4) (t':=false) (b':=b4) (m':=q) (d':=u) H2;obtain⟨k0,a0,a1,k3⟩:=gL z;refine ar (v:=.tuple #[.agg #[B,Z l r c4,false,Z b4 q u],oZ]) ?_ rfl ?_
 .simp[results,results186,go_sem,k0,a0,a1,k3]
 .have o4:mx w (w+3) l r:=mx.ofFresh (N.mono (by omega))
  have o5:mx w (w+3) b4 q:=mx.ofFresh (P.mono (by omega));exact⟨B,l,r,c4,b4,q,u,rfl,S.put o4 o5 (show w.heap.size<=w.heap.size+2 by omega) (by omega),iR (j.trans (t.mono (by omega))) (by omega),N.mono (by omega),P.mono (by omega)⟩
def PA(x:Int)(y:Nat)(w:World)(h1: -9223372036854775808<=x)(h2:x<=9223372036854775807)(hy:0<y)(u:(y:Int)<=9223372036854775807):
 Calls prog 136 #[x,.int .i64 (y:Int)] w (wj w (mkRat x y)):=by
 have p:=(TH w w).alloc (ag _) (.cells #[false,oN,false,oN] 180);have N:pO (w.alloc (.cells #[false,oN,false,oN] 180)) w false none 0 0 false none 0 0:=TL w _;have Hl:=O (nu (y:Int) (by omega) u);have n:=O p;have F:=O N;clear p N;go_enter func136,ntmps136;go_upto_region 1 with fail;refine jp (fun W=>pO W w false none 0 0 false none 0 0/\Below w w W) ⟨F,n⟩ ?_;clear F n;rintro T ⟨A,hb⟩;have l0:=TK A;have J0:=O A;have Hb:=O hb;clear A hb;go_wp2_with fail;refine(oT x _ h1 h2).mono ?_;rintro e w2 ⟨s2,a2,n2,c2,rfl,s,q,_⟩;have o:=O s;have f:=O q;clear s q;go_wp2_with fail;refine(oT (y:Int) _ (by omega) u).mono ?_;rintro e w3 ⟨s3,a3,S,c3,rfl,d,g,_⟩
 have P:s3=false:=by rw[d.1];exact aw (by omega)
 subst P
 have M:S<=599:=by have:=mW d;have:=Hl.out;omega
 have i:=O (o.go g);have E:=O d;have a:=O (f.trans (g.mono f.size));clear d g o f;go_wp2_with fail;refine(KE x y s2 a2 a3 n2 S c2 c3 w3 (by exact i) (by exact E) hy M).mono ?_;rintro e w4 ⟨B,j,m,c4,b4,l,z,rfl,t,r,K,L⟩;have b:Below T T w4:=a.trans (r.mono a.size);have X:=a.size;have c:=(b.block _ l0).trans J0;have H:=O t;have h:=O b;have C:=O K;have D:=O L;clear t r K L b;obtain⟨d0,d1,d2,d3⟩:=gL c;have f0:=gD c 0;have f1:=gD c 1;have f2:=gD c 2;have f3:=gD c 3;have H2:=O c;clear c;go_wp2_with fail;have k:=kl (s':=B) (a':=j) (n':=m) (c':=c4) (t':=false) (b':=b4) (m':=l) (d':=z) H2;obtain⟨k0,Q,R,k3⟩:=gL k;refine ar (v:=.tuple #[.agg #[B,Z j m c4,false,Z b4 l z],oZ]) ?_ rfl ?_
 .simp[results,results136,go_sem,k0,Q,R,k3]
 .have o4:mx w (w+1) j m:=mx.ofFresh (C.mono (by omega))
  have o5:mx w (w+1) b4 l:=mx.ofFresh (D.mono (by omega));exact⟨B,j,m,c4,b4,l,z,rfl,H.put o4 o5 (ag _) (by omega),iR (Hb.trans (h.mono (by omega))) (ag _),C.mono (by omega),D.mono (by omega)⟩
def pQ(x:Int)(y:Nat)(w:World)(h1: -9223372036854775808<=x)(h2:x<=9223372036854775807)(P:0<y)(D:(y:Int)<=9223372036854775807):
 Calls prog 95 #[x,.int .i64 (y:Int)] w (Bh w (mkRat x y)):=by
 have o:=O ((TH w w).alloc (ag _) (.cells #[false,oN,false,oN] 180));have u:=O (show pO (w.alloc (.cells #[false,oN,false,oN] 180)) w false none 0 0 false none 0 0 from TL w _);go_enter func95,ntmps95;go_upto_region 1 with fail;refine jp (fun l=>pO l w false none 0 0 false none 0 0/\Below w w l) ⟨u,o⟩ ?_;clear u o;rintro w0 ⟨r,hb⟩;have R:=TK r;have N:=O r;have M:=O hb;clear r hb;go_wp2_with fail;refine(PA x y _ h1 h2 P D).mono ?_;rintro e g ⟨k,c,f,c4,b4,d,h,rfl,q,j,A,B⟩;have C:=j.size;have z:=O q;have t:=O j;have H:=O A;have K:=O B;clear q j A B;go_upto_region 2 with fail;have p:=(TH g g).alloc (ag _) (.cells #[k,Z c f c4,false,Z b4 d h] 180);refine jp (fun l=>pO l g k c f c4 false b4 d h/\Below g g l) ⟨TL g _,p⟩ ?_;clear p;rintro W ⟨h5,i⟩;obtain⟨c0,c1,c2,c3⟩:=gL h5;have a:Below w0 w0 W:=t.trans (i.mono C);have b:=(a.block _ R).trans N;obtain⟨X,d1,d2,d3⟩:=gL b;have f0:=gD b 0;have f1:=gD b 1;have f2:=gD b 2;have f3:=gD b 3;have L:=O b;have s:=O i;have m:=O a;clear b h5 i a;go_wp2_with fail;have n:=kl (s':=k) (a':=c) (n':=f) (c':=c4) (t':=false) (b':=b4) (m':=d) (d':=h) L;obtain⟨k0,E,F,Q⟩:=gL n;refine ar (v:=.agg #[k,Z c f c4,false,Z b4 d h]) ?_ rfl ?_
 .simp[results,results95,go_sem,k0,E,F,Q]
 .have S:mx w (w+1) c f:=mx.ofFresh (H.mono (by omega))
  have T:mx w (w+1) b4 d:=mx.ofFresh (K.mono (by omega));exact⟨k,c,f,c4,b4,d,h,rfl,(z.go s).put S T (ag _) (by omega),iR (M.trans (m.mono (by omega))) (ag _)⟩
def Jq(r:Rat){s:Rat}(a:0<s.num):r/s=mkRat (r.num*((s.den:Nat):Int)) (r.den*s.num.natAbs):=by
 have hi:(s⁻¹).num=((s.den:Nat):Int)/\(s⁻¹).den=s.num.natAbs:=by
  show(Rat.inv s).num=_/\(Rat.inv s).den=_
  unfold Rat.inv;rw[eJ (by omega),fo a];exact⟨rfl,rfl⟩
 rw[Rat.div_def,<- GU,hi.1,hi.2]
def M8{k l:Nat}{r s:Rat}(h1:Sz k r)(h2:Sz l s):(r.num*((s.den:Nat):Int)).natAbs<1000000000^(k+l)/\r.den*s.num.natAbs<1000000000^(k+l):=by
 rw[eG,dm,aB];exact⟨cU h1.1 h2.2,cU h1.2 h2.1⟩
def M9(h i:Rat)(k1 k2:Nat)(s t:Bool)(a b a' b':Option Addr)(n m c d n' m' c' d':Nat)(w:World)(h1:QL w w s a n c b m d h)(h2:QL w w t a' n' c' b' m' d' i)(z1:Sz k1 h)(z2:Sz k2 i)(hk:k1+k2<=599)(hp:0<i.num):
 Calls prog 216 #[.agg #[s,Z a n c,false,Z b m d],.agg #[t,Z a' n' c',false,Z b' m' d']] w (wj w (h/i)):=by
 have d8:=h1.m z1;have d9:=h2.m z2;obtain⟨i0,i1,i2⟩:=jh w (.cells #[s,Z a n c,false,Z b m d] 180) (.cells #[t,Z a' n' c',false,Z b' m' d'] 180) (.cells #[false,oN,false,oN] 180);have q:=O (oF w (.cells #[s,Z a n c,false,Z b m d] 180) (.cells #[t,Z a' n' c',false,Z b' m' d'] 180) (.cells #[false,oN,false,oN] 180));have I0:=O i0;have I1:=O i1;have I2:=O i2;have W:=O h1;have X:=O h2;have Z1:=O z1;have Z2:=O z2;obtain⟨zn,zd⟩:=M8 z1 z2;have ln:(ip (h.num*((i.den:Nat):Int)).natAbs).length<=599:=af (iB zn) hk;have ld:(ip (h.den*i.num.natAbs)).length<=599:=af (iB zd) hk;have c9:0<h.den*i.num.natAbs:=dZ (bq h.den_nz) (by omega);have b9:=(Jq h hp).symm
 have e4:((n':Int)==0)=false:=by
  have:=mW h2.n
  have h0:n'≠0:=fun e=>by rw[e]at this;have:=jC.1 this.symm;omega
  simp;omega
 have b5:=O (show((h.den:Nat):Int)*i.num=((h.den*i.num.natAbs:Nat):Int)by rw[bW,Int.natAbs_of_nonneg (by omega)]);have c6:=O ln;have b3:=O ld;have c7:=O b9;clear zn zd ln ld b9;clear i0 i1 i2 h1 h2 z1 z2;generalize h/i=R at*;go_enter func216,ntmps216;go_upto_region 1 with fail;refine jp (fun wx=>pO wx w s a n c false b m d/\pO wx (w+1) t a' n' c' false b' m' d'/\pO wx (w+2) false none 0 0 false none 0 0/\Below w w wx) ⟨I0,I1,I2,q⟩ ?_;clear I0 I1 I2 q;rintro w1 ⟨j0,j1,o,hb⟩;have l0:=TK j0;have l1:=TK j1;have l2:=TK o;obtain⟨c0,c1,c2,c3⟩:=gL j0;have J0:=O j0;have J1:=O j1;have J2:=O o;have q:=O hb;clear j0 j1 o hb;go_wp2_with fail;refine(mF h s a b n m c d _ (by exact W.go q) (by omega)).mono ?_;rintro e w2 ⟨rfl,a1⟩;obtain⟨e0,e1,e2,e3⟩:=gL ((a1.block _ l1).trans J1);have C:=O a1;clear a1 c0 c1 c2 c3;go_wp2_with fail;refine(mF i t a' b' n' m' c' d' _ (by exact(X.go q).go C) (by omega)).mono ?_;rintro e T ⟨rfl,b7⟩;have l:Below w1 w1 T:=C.trans (b7.mono C.size);obtain⟨c0,c1,c2,c3⟩:=gL ((l.block _ l0).trans J0);obtain⟨d0,d1,d2,d3⟩:=gL ((l.block _ l1).trans J1);have f:=O l;clear b7 l e0 e1 e2 e3 C;go_upto_region 5 with fail;have Z0:=TK ((f.block _ l0).trans J0);have H:=TK ((f.block _ l1).trans J1);refine gS 14 [(0,true),(1,true),(2,true),(3,true),(5,true),(6,true),(7,true),(8,true),(4,false),(9,false),(10,false),(11,false),(12,true),(13,true)] (by kernel_rfl) (by kernel_rfl) ?_
 iterate 8
  refine gU (v:=?_) ?_ ?_;rotate_left
  .intro y u
   have x0:=(u.cell (p:=J (w.heap.size)) Z0).trans c0;have x1:=(u.cell (p:=⟨w.heap.size,1,none⟩) Z0).trans c1;have x2:=(u.cell (p:=⟨w.heap.size,2,none⟩) Z0).trans c2;have x3:=(u.cell (p:=⟨w.heap.size,3,none⟩) Z0).trans c3;have y0:=(u.cell (p:=J (w+1)) H).trans d0;have y1:=(u.cell (p:=⟨w.heap.size+1,1,none⟩) H).trans d1;have y2:=(u.cell (p:=⟨w.heap.size+1,2,none⟩) H).trans d2;have y3:=(u.cell (p:=⟨w.heap.size+1,3,none⟩) H).trans d3;go_simp;rfl
  try simp only[V]
 clear c0 c1 c2 c3 d0 d1 d2 d3;refine gP (fun A g=>?_);go_simp;refine(qA s false h.num ((i.den:Nat):Int) a b' n m' c d' T.drew (by exact(W.n.go q).go (oP f)) (by exact(X.d.go q).go (oP f)) (by have:=c6.out;omega)).mono ?_;rintro e w4 ⟨B,x,z,c4,rfl,b8,a2,_⟩;refine g _ _ a2 ?_;clear g A;have j:=O (show Below T T w4 from gJ (k:=1) a2);have b2:=O b8;clear b8 a2;(try simp only[V]);refine gP (fun A g=>?_);go_simp;refine(qA false t ((h.den:Nat):Int) i.num b a' m n' d c' w4 (by exact((W.d.go q).go f).go j) (by exact((X.n.go q).go f).go j) (by rw[b5,aB];have:=b3.out;omega)).mono ?_;rintro e w5 ⟨s5,a5,n5,c5,rfl,P,L,_⟩;refine g _ _ L ?_;clear g A;rw[b5]at P
 have d5:s5=false:=by rw[P.1];exact aw (Int.not_lt.2 (dP _))
 subst d5;have F:=O (b2.go L);have a0:=O P;have D:=O (j.trans (L.mono j.size));clear P L b2 j;(try simp only[V]);refine gP (fun A g=>?_);go_simp;refine(sD B (h.num*((i.den:Nat):Int)) (h.den*i.num.natAbs) x a5 z n5 c4 c5 w5 (by exact F) (by exact a0) c9 (by have:=mW a0;rw[aB]at this;have:=b3.out;omega)).mono ?_;rintro e w6 ⟨B,x,z,c4,b4,S,d4,rfl,Q,N,a3,f4,g4⟩;refine g _ _ a3 ?_;clear g A;rw[c7]at Q N;have a9:=Q.2.2;have a8:=N.2.2;have b1:=D.size;have b0:=f.size;have b6:=O (show QL w6 w6 B x z c4 b4 S d4 R from⟨Q,N⟩);have E:=O (D.trans (a3.mono b1));have F4:=O f4;have G4:=O g4;clear Q N a3 f4 g4 F a0;(try simp only[V]);refine gP (fun A g=>?_);go_simp;refine(zF B false x b4 z S c4 d4 w6 a9 a8).mono ?_;rintro e w7 ⟨rfl,M⟩;refine g _ _ M ?_;clear g A;have K:Below T T w7:=E.trans (M.mono E.size);have r:Below w1 w1 w7:=f.trans (K.mono b0);have o:=(r.block _ l2).trans J2;have c8:=O (b6.go M);have a6:=O r;clear M K r b6;try simp only[V]
 iterate 2
  refine gU (v:=?_) ?_ ?_;rotate_left
  .intro y u
   skip;go_simp;rfl
  try simp only[V]
 refine iu rfl ?_;obtain⟨d0,d1,d2,d3⟩:=gL o;have f0:=gD o 0;have f1:=gD o 1;have f2:=gD o 2;have f3:=gD o 3;have H2:=O o;clear o;go_wp2_with fail;have a7:=kl (s':=B) (a':=x) (n':=z) (c':=c4) (t':=false) (b':=b4) (m':=S) (d':=d4) H2;obtain⟨k0,d6,d7,k3⟩:=gL a7;refine ar (v:=.tuple #[.agg #[B,Z x z c4,false,Z b4 S d4],oZ]) ?_ rfl ?_
 .simp[results,results216,go_sem,k0,d6,d7,k3]
 .have o4:mx w (w+3) x z:=mx.ofFresh (F4.mono (by omega))
  have o5:mx w (w+3) b4 S:=mx.ofFresh (G4.mono (by omega));exact⟨B,x,z,c4,b4,S,d4,rfl,c8.put o4 o5 (show w.heap.size<=w.heap.size+2 by omega) (by omega),iR (q.trans (a6.mono (by omega))) (by omega),F4.mono (by omega),G4.mono (by omega)⟩
def Cb(q l:Rat)(k1 B:Nat)(s t:Bool)(a b a' b':Option Addr)(n m c d n' m' c' d':Nat)(w:World)(h1:QL w w s a n c b m d q)(h2:QL w w t a' n' c' b' m' d' l)(T:Sz k1 q)(W:Sz B l)(hk:k1+B<=599)(hp:0<l.num):
 Calls prog 179 #[.agg #[s,Z a n c,false,Z b m d],.agg #[t,Z a' n' c',false,Z b' m' d']] w (Bh w (q/l)):=by
 obtain⟨I0:HQ _,I1:HQ _,I2:HQ _⟩:=jh w (.cells #[s,Z a n c,false,Z b m d] 180) (.cells #[t,Z a' n' c',false,Z b' m' d'] 180) (.cells #[false,oN,false,oN] 180);have hb:=oF w (.cells #[s,Z a n c,false,Z b m d] 180) (.cells #[t,Z a' n' c',false,Z b' m' d'] 180) (.cells #[false,oN,false,oN] 180);have A:=O hb;have F:=O (M9 q l k1 B s t a b a' b' n m c d n' m' c' d' _ (h1.go hb) (h2.go hb) T W hk hp);clear hb h1 h2 T W;generalize q/l=R at*;go_enter func179,ntmps179;go_wp2_with fail;refine F.mono ?_;rintro e g ⟨r,h,j,c4,b4,i,p,rfl,z,k,M,N⟩
 have a0:w.heap.size+3<=g.heap.size:=by have:=k.size;simp at this;omega
 have f:=(k.block (w+2) (by simp)).trans I2;have y:Below w w g:=A.trans (k.mono A.size);have C:kS (w+3) h j:=M.mono (by simp);have E:=O (show kS (w+3) b4 i from N.mono (by simp));have K:=O z;have L:=O f;have H:=O y;have D:=O C;clear z k M N f y C I0 I1 I2 A F;go_upto_region 2 with fail;have x:=(TH g g).alloc (ag _) (.cells #[r,Z h j c4,false,Z b4 i p] 180);refine jp (fun S=>pO S g r h j c4 false b4 i p/\Below g g S) ⟨TL g _,x⟩ ?_;clear x;rintro w2 ⟨h5,o:HQ _⟩;obtain⟨c0,c1,c2,c3⟩:=gL h5;have f:=(o.block _ (TK L)).trans L;obtain⟨d0,d1,d2,d3⟩:=gL f;have f0:=gD f 0;have f1:=gD f 1;have f2:=gD f 2;have f3:=gD f 3;have X:=O f;clear f h5;go_wp2_with fail;have u:=kl (s':=r) (a':=h) (n':=j) (c':=c4) (t':=false) (b':=b4) (m':=i) (d':=p) X;obtain⟨k0,P,Q,k3⟩:=gL u;refine ar (v:=.agg #[r,Z h j c4,false,Z b4 i p]) ?_ rfl ?_
 .simp[results,results179,go_sem,k0,P,Q,k3]
 .have o4:mx w (w+3) h j:=mx.ofFresh D
  have o5:mx w (w+3) b4 i:=mx.ofFresh E;exact⟨r,h,j,c4,b4,i,p,rfl,(K.go o).put o4 o5 (show w.heap.size<=w.heap.size+2 by omega) (by omega),iR (H.trans (o.mono (by omega))) (by omega)⟩
def Na(x:Int){y:Nat}(c:0<y):(mkRat x y).num.natAbs<=x.natAbs/\(mkRat x y).den<=y:=by
 obtain⟨h1,h2⟩:=zA x (d:=y) (by omega);have e:0<Nat.gcd x.natAbs y:=eM _ c;rw[h1,h2];refine⟨?_,dp _ _⟩;obtain⟨k,b⟩:=fG x.natAbs y;have a:((Nat.gcd x.natAbs y:Nat):Int)∣ x:=Int.ofNat_dvd_left.2 ⟨k,b⟩;rw[Int.natAbs_ediv_of_dvd a,aB];exact dp _ _
def Sz.mk{x:Int}{y k:Nat}(a:0<y)(h1:x.natAbs<1000000000^k)(h2:y<1000000000^k):Sz k (mkRat x y):=by
 obtain⟨b,c⟩:=Na x a;exact⟨by omega,by omega⟩
def Sz.mul{k l:Nat}{r s:Rat}(h1:Sz k r)(h2:Sz l s):Sz (k+l) (r*s):=by
 obtain⟨a,b⟩:=M0 h1 h2;rw[<- GU];exact Sz.mk (dZ (bq r.den_nz) (bq s.den_nz)) a b
def zH{a b:Nat}(h:a<=b):(1000000000:Nat)^a<=1000000000^b:=dA (by omega) h
def Sz.mono{k l:Nat}{r:Rat}(h:Sz k r)(a:k<=l):Sz l r:=⟨eb h.1 (zH a),eb h.2 (zH a)⟩
def Sz.add{k l:Nat}{r s:Rat}(h1:Sz k r)(h2:Sz l s):Sz (k+l+1) (r+s):=by
 obtain⟨a,b⟩:=T8 h1 h2;rw[<- T7];exact Sz.mk (dZ (bq r.den_nz) (bq s.den_nz)) a (eb b (zH (by omega)))
def Sz.div{k l:Nat}{r s:Rat}(h1:Sz k r)(h2:Sz l s)(c:0<s.num):Sz (k+l) (r/s):=by
 obtain⟨a,b⟩:=M8 h1 h2;rw[Jq r c];exact Sz.mk (dZ (bq r.den_nz) (by omega)) a b
def tS(L:Int):Rat:=mkRat (L*L) 1000000000000
def xe(L:Int):Nat->Rat
 |0=>mkRat 1 1
 |k+1=>xe L k*tS L
def EK(L:Int):Nat->Rat
 |0=>mkRat 1 1
 |k+1=>EK L k/tS L
def kN(L n:Int):Rat:=if 0<=n then xe L n.toNat else EK L (-n).toNat
def QX{x:Int}{y:Nat}(c:0<y)(h:0<x):0<(mkRat x y).num:=by
 obtain⟨h1,_⟩:=zA x (d:=y) (by omega);rw[h1];have g:0<Nat.gcd x.natAbs y:=eM _ c;obtain⟨k,a⟩:=fG x.natAbs y
 have b:x=((Nat.gcd x.natAbs y:Nat):Int)*(k:Int):=by rw[<- bW,<- a];omega
 have f:0<k:=by
  obtain e|e:=cM k
  .rw[e,eV]at a;omega
  .exact e
 generalize Nat.gcd x.natAbs y=Gq0 at*;rw[b,Int.mul_ediv_cancel_left _ (by omega)];omega
def Nb{L:Int}(h:0<L):0<(tS L).num:=QX (by omega) (Int.mul_pos h h)
def Jr{L:Int}(h:0<L)(h2:L<=2500000):Sz 2 (tS L):=by
 refine Sz.mk (by omega) ?_ (by omega);have h3:L*L<=2500000*2500000:=eI h2 h2 (by omega) (by omega);have a:0<=L*L:=eH (by omega) (by omega);omega
def Dg{L:Int}(h:0<L)(h2:L<=2500000):∀k,Sz (2*k+1) (xe L k)
 |0=>Sz.mk (by omega) (by decide) (by decide)
 |k+1=>((Dg h h2 k).mul (Jr h h2)).mono (by omega)
def Dh{L:Int}(h:0<L)(h2:L<=2500000):∀k,Sz (2*k+1) (EK L k)
 |0=>Sz.mk (by omega) (by decide) (by decide)
 |k+1=>((Dh h h2 k).div (Jr h h2) (Nb h)).mono (by omega)
def QY{N:Nat}{w:World}{a:Option Addr}{n c:Nat}{zs:List Int}{g:Nat}{s:Bool}{a':Option Addr}{n' c':Nat}{t:Bool}{b':Option Addr}{m' d':Nat}(h:SL N w a n c zs)(l:pO w g s a' n' c' t b' m' d'):∀b off,a=some ⟨b,off,none⟩->0<n->b≠g:=by
 rintro b off e f rfl;obtain⟨b1,i,d,_,j⟩:=h.at f;rw[e]at d;cases d;have h0:=j 0 f;rw[VV l]at h0
 match hoff:off+0,h0 with
 |0,h0=>simp at h0
 |1,h0=>simp at h0
 |2,h0=>simp at h0
 |3,h0=>simp at h0
 |k+4,h0=>simp at h0
def Js{w:World}{s:Bool}{a:Option Addr}{n c:Nat}{z:Int}{g:Nat}{s':Bool}{a':Option Addr}{n' c':Nat}{t':Bool}{b':Option Addr}{m' d':Nat}{u v u2 v2:Value}(h:LG w w s a n c z)(d:pO w g s' a' n' c' t' b' m' d'):
 LG ((((w.setCell (J g) u).setCell ⟨g,1,none⟩ v).setCell ⟨g,2,none⟩ u2).setCell ⟨g,3,none⟩ v2).heap.size ((((w.setCell (J g) u).setCell ⟨g,1,none⟩ v).setCell ⟨g,2,none⟩ u2).setCell ⟨g,3,none⟩ v2) s a n c z:=by
 have b:=QY h.2.1 d;have:=(((h.setCell (J g) u b).setCell ⟨g,1,none⟩ v b).setCell ⟨g,2,none⟩ u2 b).setCell ⟨g,3,none⟩ v2 b;simpa using this
def QL.putG{w:World}{s:Bool}{a:Option Addr}{n c:Nat}{b:Option Addr}{m d:Nat}{r:Rat}{g:Nat}{s':Bool}{a':Option Addr}{n' c':Nat}{t':Bool}{b':Option Addr}{m' d':Nat}{u v u2 v2:Value}(h:QL w w s a n c b m d r)(e:pO w g s' a' n' c' t' b' m' d'):
 QL ((((w.setCell (J g) u).setCell ⟨g,1,none⟩ v).setCell ⟨g,2,none⟩ u2).setCell ⟨g,3,none⟩ v2).heap.size ((((w.setCell (J g) u).setCell ⟨g,1,none⟩ v).setCell ⟨g,2,none⟩ u2).setCell ⟨g,3,none⟩ v2) s a n c b m d r:=⟨Js h.n e,Js h.d e⟩
def Nc{w:World}{g k:Nat}{s:Bool}{a:Option Addr}{n c:Nat}{t:Bool}{b:Option Addr}{m d:Nat}{u v u2 v2:Value}(f:g≠k)(h:pO w g s a n c t b m d):
 pO ((((w.setCell (J k) u).setCell ⟨k,1,none⟩ v).setCell ⟨k,2,none⟩ u2).setCell ⟨k,3,none⟩ v2) g s a n c t b m d:=
 (TI _ _ _ _ (fun e=>f e)).trans ((TI _ _ _ _ (fun e=>f e)).trans ((TI _ _ _ _ (fun e=>f e)).trans ((TI _ _ _ _ (fun e=>f e)).trans h)))
def kG(w:World)(g:Nat)(r:Rat):Prop:=∃s a n c b m d,pO w g s a n c false b m d/\QL w w s a n c b m d r
def kG.lt{w:World}{g:Nat}{r:Rat}(h:kG w g r):g<w.heap.size:=by obtain⟨s,a,n,c,b,m,d,h,_⟩:=h;exact TK h
def kG.go{w w':World}{g:Nat}{r:Rat}(h:kG w g r)(hb:Below w w w'):kG w' g r:=by
 obtain⟨s,a,n,c,b,m,d,h1,h2⟩:=h;exact⟨s,a,n,c,b,m,d,(hb.block _ (TK h1)).trans h1,h2.go hb⟩
def kG.new{w:World}{s:Bool}{a:Option Addr}{n c:Nat}{b:Option Addr}{m d:Nat}{r:Rat}(h:QL w w s a n c b m d r):kG (w.alloc (.cells #[s,Z a n c,false,Z b m d] 180)) w r:=
 ⟨s,a,n,c,b,m,d,TL w _,h.go ((TH _ _).alloc (ag _) _)⟩
def kG.put{w:World}{g:Nat}{r q:Rat}{s:Bool}{a:Option Addr}{n c:Nat}{b:Option Addr}{m d:Nat}(h:kG w g q)(e:QL w w s a n c b m d r):
 kG ((((w.setCell (J g) (.bool s)).setCell ⟨g,1,none⟩ (.slice a n c)).setCell ⟨g,2,none⟩ (.bool false)).setCell ⟨g,3,none⟩ (.slice b m d)) g r:=by
 obtain⟨s',a',n',c',b',m',d',h1,h2⟩:=h;exact⟨s,a,n,c,b,m,d,kl h1,e.putG h1⟩
def kG.other{w:World}{g k:Nat}{r q:Rat}{u v u2 v2:Value}(h:kG w g r)(f:kG w k q)(e:g≠k):
 kG ((((w.setCell (J k) u).setCell ⟨k,1,none⟩ v).setCell ⟨k,2,none⟩ u2).setCell ⟨k,3,none⟩ v2) g r:=by
 obtain⟨s',a',n',c',b',m',d',h1,h2⟩:=h;obtain⟨s,a,n,c,b,m,d,k1,i⟩:=f;exact⟨s',a',n',c',b',m',d',Nc e h1,h2.putG k1⟩
def zI(L n:Int)(k:Nat):Rat:=if 0<=n then xe L n.toNat else EK L k
def KF{L n:Int}(h:¬0<=n):zI L n 0=xe L 0:=by unfold zI;rw[aj h];rfl
def uA(L n:Int)(w:World)(h1:0<L)(h2:L<=2500000)(n1: -4<=n)(n2:n<=4):
 Calls prog 132 #[L,n] w (Bh w (kN L n)):=by
 have d8:L*L<=2500000*2500000:=eI h2 h2 (by omega) (by omega);have d4:0<=L*L:=eH (by omega) (by omega);have s:=O ((TH w w).alloc (ag _) (.cells #[false,oN,false,oN] 180));have Hq:=O (show pO (w.alloc (.cells #[false,oN,false,oN] 180)) w false none 0 0 false none 0 0 from TL w _);go_enter func132,ntmps132;go_upto_region 1 with fail;refine jp (fun l=>pO l w false none 0 0 false none 0 0/\Below w w l) ⟨Hq,s⟩ ?_;clear Hq s;rintro w0 ⟨h,b2⟩;have l0:=TK h;have J0:=O h;have c4:=O b2;clear h b2;go_wp2_with fail;refine(pQ (L*L) 1000000000000 _ (by omega) (by omega) (by omega) (by omega)).mono ?_;rintro e N ⟨s1,a1,m1,c1,b1,k1,d1,rfl,a2,T⟩;rw[show mkRat (L*L) 1000000000000=tS L from rfl]at a2;have a:=O (kG.new a2);have t:=(TH N N).alloc (ag _) (.cells #[s1,Z a1 m1 c1,false,Z b1 k1 d1] 180);have s:=O (T.trans (t.mono T.size));have l1:=T.size;clear a2 t T;go_upto_region 2 with fail;refine jp (fun l=>kG l N (tS L)/\Below w0 w0 l/\N.heap.size<l.heap.size) ⟨a,s,a.lt⟩ ?_;clear a s;rintro w2 ⟨f,b4,d2⟩;have a:=O f;have Q:=O b4;clear f b4;go_wp2_with fail;refine(pQ 1 1 _ (by omega) (by omega) (by omega) (by omega)).mono ?_;rintro e w3 ⟨s3,a3,m3,c3,b3,k3,d3,rfl,a4,W⟩;rw[show mkRat 1 1=xe L 0 from rfl]at a4;have t:=(TH w3 w3).alloc (ag _) (.cells #[s3,Z a3 m3 c3,false,Z b3 k3 d3] 180);have r:=O (kG.new a4);have l3:=W.size;have p:=W.trans (t.mono W.size);have P:=O (a.go p);have R:=O (Q.trans (p.mono Q.size));have d0:=Q.size;clear a4 t W p a Q;go_upto_region 3 with fail;refine jp (fun l=>kG l N (tS L)/\kG l w3 (xe L 0)/\Below w0 w0 l) ⟨P,r,R⟩ ?_;clear P r R;rintro w4 ⟨f,i,b8⟩;have a:=O f;have r:=O i;have a9:=O b8;clear f i b8
 have hg:w3.heap.size≠N.heap.size:=by omega
 have b0:=O (show w0.heap.size<=w3.heap.size by omega);have Hg:=O hg;generalize N.heap.size=g5 at*;generalize w3.heap.size=g6 at*;clear l1 l3 d0 d2 hg;go_wp2
 go_loopw [7] (fun E wr=>∃k:Nat,E=.int .i64 (k:Int)/\k<=n.toNat/\kG wr g5 (tS L)/\kG wr g6 (xe L k)/\Below w0 w0 wr) (fun E _=>n.toNat-(intOf E).toNat)
 case atStart=>exact⟨0,rfl,aA _,a,r,a9⟩
 case round=>
  obtain⟨k,rfl,hk,f,i,b9⟩:=hrel;have a0:=O b9;clear b9;by_cases hlt:(k:Int) <n
  .obtain⟨s5,a5,m5,c5,b5,k5,d5,K,f5⟩:=f
   obtain⟨M,z,H,B,A,F,C,j,o⟩:=i;obtain⟨x0,x1,x2,x3⟩:=gL K;obtain⟨y0,y1,y2,y3⟩:=gL j;have Q5:=O K;have x:=O j;have F5:=O f5;have u:=O o;clear K j f5 o;go_wp2_with fail;refine(nM (xe L k) (tS L) (2*k+1) 2 M s5 z A a5 b5 H F B C m5 k5 c5 d5 _ (by exact u) (by exact F5) (Dg h1 h2 k) (Jr h1 h2) (by omega)).mono ?_;rintro e wa ⟨s7,a7,m7,c7,b7,k7,d7,rfl,D,g⟩;rw[show xe L k*tS L=xe L (k+1)from rfl]at D;have c:=(g.block _ (TK x)).trans x;obtain⟨y0,y1,y2,y3⟩:=gL c;have e0:=gD c 0;have e1:=gD c 1;have e2:=gD c 2;have e3:=gD c 3;have F7:=O D;have b:=O g;clear D g c x0 x1 x2 x3;go_wp2
   go_roundw
   case rel=>
    have m:kG wr g6 (xe L k):=⟨_,_,_,_,_,_,_,x,u⟩;have y:kG wr g5 (tS L):=⟨_,_,_,_,_,_,_,Q5,F5⟩;exact⟨k+1,by go_num,by omega,(y.go b).other (m.go b) Hg.symm,(m.go b).put F7,iR (a0.trans (b.mono a0.size)) b0⟩
   case measure=>simp[intOf];omega
  .have c2:xe L k=zI L n 0:=by
    by_cases h0:0<=n
    .unfold zI
     rw[aq h0,show n.toNat=k by omega]
    .have c9:k=0:=by omega
     rw[c9,KF h0]
   rw[c2]at i;have y:=O f;have m:=O i;clear f i c2 a r a9;go_wp2
   go_loopw [8] (fun E wz=>∃k:Nat,E=.int .i64 (-(k:Int))/\k<=(-n).toNat/\kG wz g5 (tS L)/\kG wz g6 (zI L n k)/\Below w0 w0 wz) (fun E _=>(-n).toNat-(intOf E).natAbs)
   case atStart=>exact⟨0,rfl,aA _,y,m,a0⟩
   case round=>
    obtain⟨d,rfl,e4,f,i,c0⟩:=hrel;have S:=O c0;clear c0;by_cases d9:n< -(d:Int)
    .have q:¬0<=n:=by omega
     obtain⟨s5,a5,m5,c5,b5,k5,d5,K,f5⟩:=f;obtain⟨M,z,H,B,A,F,C,j,o⟩:=i;obtain⟨x0,x1,x2,x3⟩:=gL K;obtain⟨y0,y1,y2,y3⟩:=gL j;rw[show zI L n d=EK L d by unfold zI;rw[aj q]]at o;have c8:=O (show zI L n (d+1)=EK L d/tS L by unfold zI;rw[aj q];rfl);have Q5:=O K;have x:=O j;have F5:=O f5;have u:=O o;clear K j f5 o q y m;go_wp2_with fail;refine(Cb (EK L d) (tS L) (2*d+1) 2 M s5 z A a5 b5 H F B C m5 k5 c5 d5 _ (by exact u) (by exact F5) (Dh h1 h2 d) (Jr h1 h2) (by omega) (Nb h1)).mono ?_;rintro e wa ⟨s7,a7,m7,c7,b7,k7,d7,rfl,D,g⟩;rw[<- c8]at D;have c:=(g.block _ (TK x)).trans x;obtain⟨y0,y1,y2,y3⟩:=gL c;have e0:=gD c 0;have e1:=gD c 1;have e2:=gD c 2;have e3:=gD c 3;have F7:=O D;have b:=O g;clear D g c x0 x1 x2 x3;go_wp2
     go_roundw
     case rel=>
      have m:kG wr g6 (EK L d):=⟨_,_,_,_,_,_,_,x,u⟩;have y:kG wr g5 (tS L):=⟨_,_,_,_,_,_,_,Q5,F5⟩;exact⟨d+1,by go_num,by omega,(y.go b).other (m.go b) Hg.symm,(m.go b).put F7,iR (S.trans (b.mono S.size)) b0⟩
     case measure=>simp[intOf];omega
    .have X:zI L n d=kN L n:=by
      by_cases h0:0<=n
      .unfold zI kN;rw[aq h0,aq h0]
      .rw[show d=(-n).toNat by omega];rfl
     rw[X]at i;obtain⟨M,z,H,B,A,F,C,j,o⟩:=i;obtain⟨y0,y1,y2,y3⟩:=gL j;have h:=(S.block _ l0).trans J0;obtain⟨x0,x1,x2,x3⟩:=gL h;have e0:=gD h 0;have e1:=gD h 1;have e2:=gD h 2;have e3:=gD h 3;have J1:=O h;have u:=O o;clear h j o X f y m;go_wp2_with fail;have a8:=kl (s':=M) (a':=z) (n':=H) (c':=B) (t':=false) (b':=A) (m':=F) (d':=C) J1;obtain⟨z0,z1,z2,z3⟩:=gL a8;refine ar (v:=.agg #[M,Z z H B,false,Z A F C]) ?_ rfl ?_
     .simp[results,results132,go_sem,z0,z1,z2,z3]
     .exact⟨M,z,H,B,A,F,C,rfl,u.putG J1,iR (c4.trans (S.mono (by omega))) (ag _)⟩
structure jQ where
 nm:ByteArray
 form:Int
 c0:Int
 c1:Int
 c2:Int
 c3:Int
 c4:Int
 c5:Int
 lo:Int
 hi:Int
def jQ.cells(g:jQ):List Value:=[.string g.nm,.int .i64 g.form,.int .i64 g.c0,.int .i64 g.c1,.int .i64 g.c2,.int .i64 g.c3,.int .i64 g.c4,.int .i64 g.c5,.int .i64 g.lo,.int .i64 g.hi]
def jQ.co(g:jQ):Nat->Int
 |0=>g.c0
 |1=>g.c1
 |2=>g.c2
 |3=>g.c3
 |4=>g.c4
 |_=>g.c5
def jQ.In(g:jQ):Prop:=∀i,-1000000000000<=g.co i/\g.co i<=1000000000000
abbrev Nd(w:World)(b:Nat)(g:jQ):Prop:=w.heap[b]? =some (.cells #[g.nm,g.form,g.c0,g.c1,g.c2,g.c3,g.c4,g.c5,g.lo,g.hi] 115 (0,0))
def EL{w:World}{b:Nat}{g:jQ}(h:Nd w b g){i:Nat}(hi:i<6):w.cell? ⟨b,2+i,none⟩=some (.int .i64 (g.co i)):=by
 rw[VV h]
 match i,hi with
 |0,_=>rfl
 |1,_=>rfl
 |2,_=>rfl
 |3,_=>rfl
 |4,_=>rfl
 |5,_=>rfl
 |i+6,hi=>omega
def pT(g:jQ)(i:Nat):Rat:=mkRat (g.co i) 1000000000
def tf{g:jQ}(h:g.In)(i:Nat):Sz 2 (pT g i):=by
 have:=h i;exact Sz.mk (by omega) (by omega) (by omega)
def qb{L n:Int}(h:0<L)(h2:L<=2500000)(a: -4<=n)(b:n<=4):Sz 9 (kN L n):=by
 unfold kN;split
 .exact(Dg h h2 _).mono (by omega)
 .exact(Dh h h2 _).mono (by omega)
def mr(g:jQ)(L:Int):Nat->Rat
 |0=>mkRat 0 1
 |i+1=>mr g L i+pT g i*kN L (-(i:Int))
def uB{g:jQ}(a:g.In){L:Int}(h:0<L)(h2:L<=2500000):∀i,i<=4->Sz (12*i+1) (mr g L i)
 |0,_=>Sz.mk (by omega) (by decide) (by decide)
 |i+1,hi=>((uB a h h2 i (by omega)).add ((tf a i).mul (qb h h2 (by omega) (by omega)))).mono (by omega)
def Cc(g:jQ)(L:Int)(w:World)(hg:g.In)(h1:0<L)(h2:L<=2500000):
 Calls prog 92 #[.agg #[g.nm,g.form,g.c0,g.c1,g.c2,g.c3,g.c4,g.c5,g.lo,g.hi],L] w (Bh w (mr g L 3)):=by
 obtain⟨I0:HQ _,I1:HQ _⟩:=iN w (.cells #[g.nm,g.form,g.c0,g.c1,g.c2,g.c3,g.c4,g.c5,g.lo,g.hi] 115) (.cells #[false,oN,false,oN] 180);have d:=O (iH (w:=w) (.cells #[g.nm,g.form,g.c0,g.c1,g.c2,g.c3,g.c4,g.c5,g.lo,g.hi] 115) (.cells #[false,oN,false,oN] 180));go_enter func92,ntmps92;go_upto_region 1 with fail;refine jp (fun r=>Nd r w g/\pO r (w+1) false none 0 0 false none 0 0/\Below w w r) ⟨I0,I1,d⟩ ?_;clear I0 I1 d;rintro w0 ⟨JG:HQ _,J0:HQ _,Hb0:HQ _⟩;have lg:=TK JG;have l0:=TK J0;go_wp2_with fail;refine(pQ 0 1 _ (by omega) (by omega) (by omega) (by omega)).mono ?_;rintro e Q ⟨s1,a1,m1,c1,b1,k1,d1,rfl,B,o⟩;rw[show mkRat 0 1=mr g L 0 from rfl]at B;have c:=O (kG.new B);have S:=(TH Q Q).alloc (ag _) (.cells #[s1,Z a1 m1 c1,false,Z b1 k1 d1] 180);have l1:=o.size;have d:=O (o.trans (S.mono o.size));clear B S o;go_upto_region 2 with fail;refine jp (fun r=>kG r Q (mr g L 0)/\Below w0 w0 r) ⟨c,d⟩ ?_;clear c d;rintro w2 ⟨c:HQ _,Hb2:HQ _⟩;have a3:=O l1;generalize Q.heap.size=g5 at*;clear l1;go_wp2
 go_loopw [6] (fun iv wr=>∃k:Nat,iv=.int .i64 (k:Int)/\k<=3/\kG wr g5 (mr g L k)/\Below w0 w0 wr) (fun iv _=>3-(intOf iv).toNat)
 case atStart=>exact⟨0,rfl,aA _,c,Hb2⟩
 case round=>
  obtain⟨k,rfl,hk,v5,f:HQ _⟩:=hrel;have V5:=O v5;obtain⟨P,E,N,c5,F,M,H,D:HQ _,F5:HQ _⟩:=v5;obtain⟨x0,x1,x2,x3⟩:=gL D;have l5:=TK D;clear c Hb2;by_cases hlt:k<3
  .have jg:=(f.block _ lg).trans JG
   have d2:=TK jg;have y2:=EL jg (i:=k) (by omega);have T:=hg k;generalize hcc:g.co k=ck at*;have a0:=O hcc
   have d3:(k:Int) <6:=by omega
   clear jg hcc;go_wp2_with fail;refine gS 12 [(0,true),(1,true),(2,true),(3,true),(4,true),(6,true),(7,true),(8,true),(5,false),(9,false),(10,false),(11,false)] (by kernel_rfl) (by kernel_rfl) ?_
   iterate 8
    refine gU (v:=?_) ?_ ?_;rotate_left
    .intro y C
     have z0:=(C.cell (p:=J g5) l5).trans x0;have z1:=(C.cell (p:=⟨g5,1,none⟩) l5).trans x1;have z2:=(C.cell (p:=⟨g5,2,none⟩) l5).trans x2;have z3:=(C.cell (p:=⟨g5,3,none⟩) l5).trans x3;have z4:=(C.cell (p:=⟨w.heap.size,2+k,none⟩) d2).trans y2;go_simp;with_reducible rfl
    try simp only[V]
   clear x0 x1 x2 x3 y2;have b4:=uB hg h1 h2 k (by omega);have X:=qb h1 h2 (n:= -(k:Int)) (by omega) (by omega);have W:=tf hg k;have a4:=O (show mr g L (k+1)=mr g L k+pT g k*kN L (-(k:Int))from rfl);have a2:=O (show mkRat ck 1000000000=pT g k by rw[<- a0];rfl);generalize hrn:mr g L (k+1)=rn at*;have b2:=O hrn;clear hrn;generalize mr g L k=r5 at*;generalize hpk:kN L (-(k:Int))=pk at*;have b0:=O hpk;clear hpk;generalize pT g k=rc at*
   have d0:IntKind.i64.wrap (-(k:Int))= -(k:Int):=by simp[IntKind.wrap,IntKind.bits,IntKind.signed];omega
   (try simp only[d0]);refine gP (fun j a=>?_);go_simp;refine(pQ ck 1000000000 _ (by have:=T;omega) (by have:=T;omega) (by omega) (by omega)).mono ?_;rintro e wa ⟨s6,a6,m6,c6,b6,k6,d6,rfl,f6,x⟩;refine a _ _ x ?_;clear a j;(try simp only[V]);rw[a2]at f6;have b:Below wr wr wa:=gJ (k:=1) x;have G5:=O (F5.go b);clear x;have s:=O b;have F6:=O f6;clear b f6;refine gP (fun j a=>?_);go_simp;refine(uA L (-(k:Int)) _ h1 h2 (by omega) (by omega)).mono ?_;rintro e wb ⟨s7,a7,m7,c7,b7,k7,d7,rfl,f7,h⟩;rw[b0]at f7;refine a _ _ h ?_;clear a j;(try simp only[V]);have K5:=O (G5.go h);have G6:=O (F6.go h);have t:=O (s.trans (h.mono s.size));have G7:=O f7;clear f7 h s F6 G5;refine gP (fun j a=>?_);go_simp;refine(nM rc pk 2 9 s6 s7 a6 b6 a7 b7 m6 k6 c6 d6 m7 k7 c7 d7 _ (by exact G6) (by exact G7) W X (by omega)).mono ?_;rintro e wc ⟨s8,a8,m8,c8,b8,k8,d8,rfl,f8,q⟩;refine a _ _ q ?_;clear a j;(try simp only[V]);have L5:=O (K5.go q);have u:=O (t.trans (q.mono t.size));have G8:=O f8;clear f8 q t G6 G7 K5;refine gP (fun j a=>?_);go_simp;refine(tR r5 (rc*pk) (12*k+1) 11 P s8 E F a8 b8 N M c5 H m8 k8 c8 d8 _ (by exact L5) (by exact G8) b4 (W.mul X) (by omega)).mono ?_;rintro e wd ⟨s9,a9,m9,c9,b9,k9,d9,rfl,f9,z⟩;refine a _ _ z ?_;clear a j;(try simp only[V]);rw[<- a4]at f9;have A:=u.trans (z.mono u.size);have m:=(A.block _ l5).trans D;obtain⟨x0,x1,x2,x3⟩:=gL m;have e0:=gD m 0;have e1:=gD m 1;have e2:=gD m 2;have e3:=gD m 3;have P5:=O m;have F9:=O f9;have R:=O A;clear m f9 A z u G8 L5;refine iu rfl ?_;go_wp2
   go_roundw
   case rel=>
    have V5:kG wr g5 r5:=⟨_,_,_,_,_,_,_,D,F5⟩;exact⟨k+1,by go_num,by omega,by rw[b2];exact(V5.go R).put F9,iR (f.trans (R.mono f.size)) a3⟩
   case measure=>simp[intOf];omega
  .have b3:k=3:=by omega
   subst b3;have l:=(f.block _ l0).trans J0;obtain⟨y0,y1,y2,y3⟩:=gL l;have e0:=gD l 0;have e1:=gD l 1;have e2:=gD l 2;have e3:=gD l 3;have J1:=O l;clear l;go_wp2_with fail;have K:=kl (s':=P) (a':=E) (n':=N) (c':=c5) (t':=false) (b':=F) (m':=M) (d':=H) J1;obtain⟨z0,z1,z2,z3⟩:=gL K;refine ar (v:=.agg #[P,Z E N c5,false,Z F M H]) ?_ rfl ?_
   .simp[results,results92,go_sem,z0,z1,z2,z3]
   .exact⟨P,E,N,c5,F,M,H,rfl,F5.putG J1,iR (Hb0.trans (f.mono (by omega))) (bY _)⟩
def tT(g:jQ)(L:Int):Nat->Rat
 |0=>mkRat 1 1
 |i+1=>tT g L i+pT g (2*i)*kN L 1/(kN L 1+mkRat (-(g.co (2*i+1))) 1000000000)
def wk(g:jQ)(L:Int):Nat->Rat
 |0=>pT g 0+pT g 1*kN L 1
 |i+1=>if i<2 then pT g 0+pT g 1*kN L 1 else wk g L i+pT g i*kN L (1-(i:Int))
def iL(g:jQ)(L:Int):Rat:=if g.form=2 then mr g L 3*mr g L 3 else if g.form=1 then tT g L 3 else wk g L 6
def jQ.Far(g:jQ)(L:Int):Prop:=g.form=1-> ∀i,i<3->0<(kN L 1+mkRat (-(g.co (2*i+1))) 1000000000).num
def ml{w:World}{b:Nat}{g:jQ}(h:Nd w b g):w.cell? (J b)=some (.string g.nm)/\w.cell? ⟨b,1,none⟩=some (.int .i64 g.form)/\w.cell? ⟨b,2,none⟩=some (.int .i64 g.c0)/\w.cell? ⟨b,3,none⟩=some (.int .i64 g.c1)/\w.cell? ⟨b,4,none⟩=some (.int .i64 g.c2)/\w.cell? ⟨b,5,none⟩=some (.int .i64 g.c3)/\w.cell? ⟨b,6,none⟩=some (.int .i64 g.c4)/\w.cell? ⟨b,7,none⟩=some (.int .i64 g.c5)/\w.cell? ⟨b,8,none⟩=some (.int .i64 g.lo)/\w.cell? ⟨b,9,none⟩=some (.int .i64 g.hi):=by
 refine⟨?_,?_,?_,?_,?_,?_,?_,?_,?_,?_⟩ <;>exact(VV h _).trans rfl
def EM(g:jQ)(L:Int)(w:World)(S:g.In)(h1:0<L)(h2:L<=2500000)(hf:g.form=2):
 Calls prog 129 #[.agg #[g.nm,g.form,g.c0,g.c1,g.c2,g.c3,g.c4,g.c5,g.lo,g.hi],L] w (Bh w (iL g L)):=by
 rw[show iL g L=mr g L 3*mr g L 3 by unfold iL;rw[aq hf]];obtain⟨H:HQ _,I1:HQ _⟩:=iN w (.cells #[g.nm,g.form,g.c0,g.c1,g.c2,g.c3,g.c4,g.c5,g.lo,g.hi] 115) (.cells #[false,oN,false,oN] 180);have a:=O (iH (w:=w) (.cells #[g.nm,g.form,g.c0,g.c1,g.c2,g.c3,g.c4,g.c5,g.lo,g.hi] 115) (.cells #[false,oN,false,oN] 180));have o:=uB S h1 h2 3 (by omega);have Hf:=O hf;clear hf;go_enter func129,ntmps129;go_upto_region 1 with fail;refine jp (fun c=>Nd c w g/\pO c (w+1) false none 0 0 false none 0 0/\Below w w c) ⟨H,I1,a⟩ ?_;clear H I1 a;rintro w0 ⟨x,K:HQ _,Hb0:HQ _⟩;have lg:=TK x;have l0:=TK K;obtain⟨z0,i,C,D,z4,z5,z6,z7,z8,z9⟩:=ml x;have hf:=Hf.out;rw[hf]at i;have p:=O (Cc g L w0 S h1 h2);clear x;rw[hf]at p;go_wp2_with fail;refine p.mono ?_;clear p z0 i C D z4 z5 z6 z7 z8 z9;rintro e B ⟨s1,a1,m1,c1,b1,k1,d1,rfl,n,d⟩;generalize mr g L 3=R at*;have j:=O (kG.new n);have l:=(TH B B).alloc (ag _) (.cells #[s1,Z a1 m1 c1,false,Z b1 k1 d1] 180);have a:=O (d.trans (l.mono d.size));clear n l d;go_upto_region 3 with fail;refine jp (fun c=>kG c B R/\Below w0 w0 c) ⟨j,a⟩ ?_;clear j a;rintro w2 ⟨v5,m⟩;obtain⟨s5,N,W,c5,P,T,Q,X,u⟩:=v5;obtain⟨x0,x1,x2,x3⟩:=gL X;have E:=O (nM R R 37 37 s5 s5 N P N P W T c5 Q W T c5 Q w2 u u o o (by omega));have k:=O m;clear m X u;go_wp2_with fail;refine E.mono ?_;clear E x0 x1 x2 x3;rintro e w3 ⟨A,q,z,s,r,y,t,rfl,F6:HQ _,hb3⟩;have f:=k.trans (hb3.mono k.size);have b:=(f.block _ l0).trans K;obtain⟨y0,y1,y2,y3⟩:=gL b;have e0:=gD b 0;have e1:=gD b 1;have e2:=gD b 2;have e3:=gD b 3;have M:=O b;have F:=O f;clear b f hb3;go_wp2_with fail;have h:=kl (s':=A) (a':=q) (n':=z) (c':=s) (t':=false) (b':=r) (m':=y) (d':=t) M;obtain⟨z0,i,C,D⟩:=gL h;refine ar (v:=.agg #[A,Z q z s,false,Z r y t]) ?_ rfl ?_
 .simp[results,results129,go_sem,z0,i,C,D]
 .exact⟨A,q,z,s,r,y,t,rfl,F6.putG M,iR (Hb0.trans (F.mono (by omega))) (bY _)⟩
def GX{g:jQ}(a:g.In){L:Int}(h:0<L)(h2:L<=2500000):∀i,i<=6->Sz (12*i+14) (wk g L i)
 |0,_=>(((tf a 0).add ((tf a 1).mul (qb h h2 (by omega) (by omega))))).mono (by omega)
 |i+1,hi=>by
  unfold wk;split
  .exact(((tf a 0).add ((tf a 1).mul (qb h h2 (by omega) (by omega))))).mono (by omega)
  .exact((GX a h h2 i (by omega)).add ((tf a i).mul (qb h h2 (by omega) (by omega)))).mono (by omega)
def Bi(g:jQ)(L:Int)(w:World)(hg:g.In)(h1:0<L)(h2:L<=2500000)(hf:(g.form==2)=false)(g0:(g.form==1)=false):
 Calls prog 129 #[.agg #[g.nm,g.form,g.c0,g.c1,g.c2,g.c3,g.c4,g.c5,g.lo,g.hi],L] w (Bh w (wk g L 6)):=by
 obtain⟨i0,i1⟩:=iN w (.cells #[g.nm,g.form,g.c0,g.c1,g.c2,g.c3,g.c4,g.c5,g.lo,g.hi] 115) (.cells #[false,oN,false,oN] 180);have P:=O (iH (w:=w) (.cells #[g.nm,g.form,g.c0,g.c1,g.c2,g.c3,g.c4,g.c5,g.lo,g.hi] 115) (.cells #[false,oN,false,oN] 180));have I0:=O i0;have I1:=O i1;have Hf:=O hf;have h7:=O g0;clear i0 i1 hf g0;go_enter func129,ntmps129;go_upto_region 1 with fail;refine jp (fun M=>Nd M w g/\pO M (w+1) false none 0 0 false none 0 0/\Below w w M) ⟨I0.out,I1.out,P.out⟩ ?_;clear I0 I1 P;rintro w0 ⟨r,C,f0⟩;have lg:=TK r;have l0:=TK C;have z1:=(ml r).2.1;have hf:=Hf.out;have JG:=O r;have J0:=O C;have h4:=O f0;clear r C f0;go_wp2_with fail;refine(uA L 1 w0 h1 h2 (by omega) (by omega)).mono ?_;clear z1;rintro e w1 ⟨s1,a1,m1,c1,b1,k1,d1,rfl,g4,a2⟩;have g3:=qb h1 h2 (n:=1) (by omega) (by omega);have N:=O (kG.new g4);have e9:=(TH w1 w1).alloc (ag _) (.cells #[s1,Z a1 m1 c1,false,Z b1 k1 d1] 180);have l1:=a2.size;have P:=O (a2.trans (e9.mono a2.size));clear g4 e9 a2;go_upto_region 5 with fail;refine jp (fun M=>kG M w1 (kN L 1)/\Below w0 w0 M) ⟨N.out,P.out⟩ ?_;clear N P;rintro w2 ⟨v6,a4⟩;have i8:=O l1;generalize w1.heap.size=g6 at*;clear l1;have r:=(a4.block _ lg).trans JG.out;have g8:=TK r;have l6:=v6.lt;obtain⟨z0,z1,z2,z3,z4,z5,z6,z7,z8,z9⟩:=ml r;have i9:=h7.out;have N:=O v6;have s:=O a4;clear v6 a4 r;obtain⟨s6,a6,m6,c6,b6,k6,d6,q6,f6⟩:=N.out;obtain⟨W,x1,x2,D⟩:=gL q6;have Q6:=O q6;have F6:=O f6;clear q6 f6;go_upto_region 13 with fail;refine ic 12 [] [(11,10,(.cells #[false,oN,false,oN] 180))] [(0,true),(1,true),(2,true),(4,true),(5,true),(6,true),(8,true),(3,false),(7,false),(9,false),(10,false)] (by kernel_rfl) (by kernel_rfl) ⟨by simp,by simp,by(simp only[ct];exact⟨⟨by omega,_,rfl,rfl,rfl,fun _ _=>rfl⟩,fun _ h=>by cases h⟩)⟩ (fun _ _ _ _ _ h=>h) (fun _ _ o _ _ h=>by cases o<;>exact h) ?_
 iterate 7
  refine gZ (v:=?_) ?_ ?_;rotate_left
  .intro y q
   have y0:=(q.cell (p:=J g6) l6).trans W;have y1:=(q.cell (p:=⟨g6,1,none⟩) l6).trans x1;have y2:=(q.cell (p:=⟨g6,2,none⟩) l6).trans x2;have y3:=(q.cell (p:=⟨g6,3,none⟩) l6).trans D;have y4:=(q.cell (p:=⟨w.heap.size,2,none⟩) g8).trans z2;have y5:=(q.cell (p:=⟨w.heap.size,3,none⟩) g8).trans z3;go_simp;rfl
  try simp only[V]
 clear W x1 x2 D z0 z1 z2 z3 z4 z5 z6 z7 z8 z9;have k0:=hg 0;have k1:=hg 1;have s0:=tf hg 0;have s1:=tf hg 1;have E0:=O (show mkRat g.c0 1000000000=pT g 0 from rfl);have E1:=O (show mkRat g.c1 1000000000=pT g 1 from rfl);rw[show g.co 0=g.c0 from rfl]at k0;rw[show g.co 1=g.c1 from rfl]at k1;refine iK (fun x1 b4 K z=>?_);go_simp;refine(pQ g.c0 1000000000 x1 (by omega) (by omega) (by omega) (by omega)).mono ?_;rintro e wa ⟨s7,a7,m7,c7,b7,k7,d7,rfl,f7,A⟩;refine z _ _ A ?_;clear z K;(try simp only[V]);rw[E0.out]at f7;have t:=O ((gJ (k:=1) b4).trans (A.mono (gJ (k:=1) b4).size));have F7:=O f7;clear f7 A b4;refine iK (fun x2 d0 K z=>?_);go_simp;refine(pQ g.c1 1000000000 x2 (by omega) (by omega) (by omega) (by omega)).mono ?_;rintro e wb ⟨s8,a8,m8,c8,b8,k8,d8,rfl,f8,d⟩;refine z _ _ d ?_;clear z K;(try simp only[V]);rw[E1.out]at f8;have c:=d0.trans (d.mono d0.size);have f:=O (t.out.trans (c.mono t.out.size));have G7:=O (F7.out.go c);have G8:=O f8;clear f8 c d d0 F7 t;refine iK (fun D R K z=>?_);go_simp;refine(nM (pT g 1) (kN L 1) 2 9 s8 s6 a8 b8 a6 b6 m8 k8 c8 d8 m6 k6 c6 d6 D (G8.out.go R) ((F6.out.go f.out).go R) s1 g3 (by omega)).mono ?_;rintro e wc ⟨s9,a9,m9,c9,b9,k9,d9,rfl,f9,m⟩;refine z _ _ m ?_;clear z K;(try simp only[V]);have c:=R.trans (m.mono R.size);have x:=O (f.out.trans (c.mono f.out.size));have H7:=O (G7.out.go c);have G9:=O f9;clear f9 c m R G7 G8 f;refine iK (fun x4 S K z=>?_);go_simp;refine(tR (pT g 0) (pT g 1*kN L 1) 2 11 s7 s9 a7 b7 a9 b9 m7 k7 c7 d7 m9 k9 c9 d9 x4 (H7.out.go S) (G9.out.go S) s0 (s1.mul g3) (by omega)).mono ?_;rintro e wd ⟨h0,e5,g9,e7,e6,g7,e8,rfl,F,B⟩;refine z _ _ B ?_;clear z K;(try simp only[V]);rw[show pT g 0+pT g 1*kN L 1=wk g L 2 from rfl]at F;have c:=S.trans (B.mono S.size);have E:=O (x.out.trans (c.mono x.out.size));have d3:=O F;clear F c B S H7 G9 x;refine nV (l:=[_]) rfl (fun b w4 hC b0 f2=>?_);(try simp only[V]);have g1:w2.heap.size<=b:=hC.1.1.1.1;have a3:=E.out.trans (b0.mono E.out.size);have F:=d3.out.go b0;have T:pO w4 b false none 0 0 false none 0 0:=f2;have a0:=O (show kG ((((w4.setCell (J b) (.bool h0)).setCell ⟨b,1,none⟩ (.slice e5 g9 e7)).setCell ⟨b,2,none⟩ (.bool false)).setCell ⟨b,3,none⟩ (.slice e6 g7 e8)) b (wk g L 2)from⟨_,_,_,_,_,_,_,kl T,F.putG T⟩);obtain⟨W,x1,x2,D⟩:=gL T;have e0:=gD T 0;have e1:=gD T 1;have e2:=gD T 2;have e3:=gD T 3;have Q:=s.out.trans (a3.mono s.out.size);have b3:w0.heap.size<=b:=af s.out.size g1;have j:=O (iR (u:=.bool h0) (v:=.slice e5 g9 e7) (u2:=.bool false) (v2:=.slice e6 g7 e8) Q b3);have e4:=O b3;clear Q b3 T F a3 g1 f2 b0 hC d3 E;go_upto_region 14 with fail;refine jp (fun M=>kG M b (wk g L 2)/\Below w0 w0 M) ⟨a0.out,j.out⟩ ?_;clear e0 e1 e2 e3 W x1 x2 D a0 j N s Q6 F6 l6;rintro w5 ⟨h3,f1⟩;have d4:=O h3;have s:=O f1;clear h3 f1;have h8:=e4;clear e4;generalize hg5:b=g5 at*;clear hg5;go_wp2
 go_loopw [11] (fun iv wr=>∃k:Nat,iv=.int .i64 (k:Int)/\2<=k/\k<=6/\kG wr g5 (wk g L k)/\Below w0 w0 wr) (fun iv _=>6-(intOf iv).toNat)
 case atStart=>exact⟨2,rfl,by omega,by omega,d4.out,s.out⟩
 case round=>
  obtain⟨k,rfl,j1,hk,v5,Q⟩:=hrel;have j:=O Q;have V5:=O v5;obtain⟨s5,a5,m5,c5,b5,k5,d5,q5,f5⟩:=v5;obtain⟨W,x1,x2,D⟩:=gL q5;have l5:=TK q5;have Q5:=O q5;have F5:=O f5;clear Q q5 f5 d4 s;by_cases hlt:k<6
  .have r:=(j.out.block _ lg).trans JG.out
   have i7:=TK r;have y2:=EL r (i:=k) (by omega);have f3:=hg k;generalize hcc:g.co k=ck at*;have h5:=O hcc
   have j2:(k:Int) <6:=by omega
   clear r hcc;go_wp2_with fail;refine gS 12 [(0,true),(1,true),(2,true),(3,true),(4,true),(6,true),(7,true),(8,true),(5,false),(9,false),(10,false),(11,false)] (by kernel_rfl) (by kernel_rfl) ?_
   iterate 8
    refine gU (v:=?_) ?_ ?_;rotate_left
    .intro y q
     have z0:=(q.cell (p:=J g5) l5).trans W;have z1:=(q.cell (p:=⟨g5,1,none⟩) l5).trans x1;have z2:=(q.cell (p:=⟨g5,2,none⟩) l5).trans x2;have z3:=(q.cell (p:=⟨g5,3,none⟩) l5).trans D;have z4:=(q.cell (p:=⟨w.heap.size,2+k,none⟩) i7).trans y2;go_simp;rfl
    try simp only[V]
   clear W x1 x2 D y2;have i5:=GX hg h1 h2 k (by omega);have g2:=qb h1 h2 (n:=1-(k:Int)) (by omega) (by omega);have f4:=tf hg k;have h9:=O (show wk g L (k+1)=wk g L k+pT g k*kN L (1-(k:Int))by conv=>lhs;unfold wk;rw[aj (by omega)]);have h6:=O (show mkRat ck 1000000000=pT g k by rw[<- h5.out];rfl);generalize hrn:wk g L (k+1)=rn at*;have i3:=O hrn;clear hrn;generalize wk g L k=r5 at*;generalize hpk:kN L (1-(k:Int))=pk at*;have i2:=O hpk;clear hpk;generalize pT g k=rc at*
   have i6:IntKind.i64.wrap (1-(k:Int))=1-(k:Int):=by simp[IntKind.wrap,IntKind.bits,IntKind.signed];omega
   (try simp only[i6]);refine gP (fun X a=>?_);go_simp;refine(pQ ck 1000000000 _ (by have:=f3;omega) (by have:=f3;omega) (by omega) (by omega)).mono ?_;rintro e wa ⟨s6,a6,m6,c6,b6,k6,d6,rfl,f6,A⟩;refine a _ _ A ?_;clear a X;(try simp only[V]);rw[h6.out]at f6;have H:Below wr wr wa:=gJ (k:=1) A;have G5:=O (F5.out.go H);clear A;have t:=O H;have F6:=O f6;clear H f6;refine gP (fun X a=>?_);go_simp;refine(uA L (1-(k:Int)) _ h1 h2 (by omega) (by omega)).mono ?_;rintro e wb ⟨s7,a7,m7,c7,b7,k7,d7,rfl,f7,d⟩;rw[i2.out]at f7;refine a _ _ d ?_;clear a X;(try simp only[V]);have K5:=O (G5.out.go d);have G6:=O (F6.out.go d);have f:=O (t.out.trans (d.mono t.out.size));have G7:=O f7;clear f7 d t F6 G5;refine gP (fun X a=>?_);go_simp;refine(nM rc pk 2 9 s6 s7 a6 b6 a7 b7 m6 k6 c6 d6 m7 k7 c7 d7 _ (by exact G6.out) (by exact G7.out) f4 g2 (by omega)).mono ?_;rintro e wc ⟨s8,a8,m8,c8,b8,k8,d8,rfl,f8,m⟩;refine a _ _ m ?_;clear a X;(try simp only[V]);have L5:=O (K5.out.go m);have x:=O (f.out.trans (m.mono f.out.size));have G8:=O f8;clear f8 m f G6 G7 K5;refine gP (fun X a=>?_);go_simp;refine(tR r5 (rc*pk) (12*k+14) 11 s5 s8 a5 b5 a8 b8 m5 k5 c5 d5 m8 k8 c8 d8 _ (by exact L5.out) (by exact G8.out) i5 (f4.mul g2) (by omega)).mono ?_;rintro e wd ⟨s9,a9,m9,c9,b9,k9,d9,rfl,f9,B⟩;refine a _ _ B ?_;clear a X;(try simp only[V]);rw[<- h9.out]at f9;have b2:=x.out.trans (B.mono x.out.size);have p5:=(b2.block _ l5).trans Q5.out;obtain⟨W,x1,x2,D⟩:=gL p5;have e0:=gD p5 0;have e1:=gD p5 1;have e2:=gD p5 2;have e3:=gD p5 3;have P5:=O p5;have F9:=O f9;have E:=O b2;clear p5 f9 b2 B x G8 L5;refine iu rfl ?_;go_wp2
   go_roundw
   case rel=>
    have V5:kG wr g5 r5:=⟨_,_,_,_,_,_,_,Q5.out,F5.out⟩;exact⟨k+1,by go_num,by omega,by omega,by rw[i3.out];exact(V5.go E.out).put F9.out,iR (j.out.trans (E.out.mono j.out.size)) h8.out⟩
   case measure=>simp[intOf];omega
  .have i4:k=6:=by omega
   subst i4;have C:=(j.out.block _ l0).trans J0.out;obtain⟨y0,y1,y2,y3⟩:=gL C;have e0:=gD C 0;have e1:=gD C 1;have e2:=gD C 2;have e3:=gD C 3;have J1:=O C;clear C;go_wp2_with fail;have d2:=kl (s':=s5) (a':=a5) (n':=m5) (c':=c5) (t':=false) (b':=b5) (m':=k5) (d':=d5) J1.out;obtain⟨z0,z1,z2,z3⟩:=gL d2;refine ar (v:=.agg #[s5,Z a5 m5 c5,false,Z b5 k5 d5]) ?_ rfl ?_
   .simp[results,results129,go_sem,z0,z1,z2,z3]
   .exact⟨s5,a5,m5,c5,b5,k5,d5,rfl,F5.out.putG J1.out,iR (h4.out.trans (j.out.mono (by omega))) (bY _)⟩
def Di{g:jQ}(a:g.In){L:Int}(h:0<L)(h2:L<=2500000)(hf:∀i,i<3->0<(kN L 1+mkRat (-(g.co (2*i+1))) 1000000000).num):∀i,i<=3->Sz (30*i+1) (tT g L i)
 |0,_=>Sz.mk (by omega) (by decide) (by decide)
 |i+1,hi=>by
  have c:=a (2*i+1);have b:Sz 3 (mkRat (-(g.co (2*i+1))) 1000000000):=Sz.mk (by omega) (by omega) (by omega);have hw:=qb h h2 (n:=1) (by omega) (by omega);exact((Di a h h2 hf i (by omega)).add ((((tf a (2*i)).mul hw).div (hw.add b) (hf i (by omega))))).mono (by omega)
def EN(g:jQ)(L:Int)(w:World)(hg:g.In)(h1:0<L)(h2:L<=2500000)(hf:(g.form==2)=false)(h9:(g.form==1)=true)(m:∀i,i<3->0<(kN L 1+mkRat (-(g.co (2*i+1))) 1000000000).num):
 Calls prog 129 #[.agg #[g.nm,g.form,g.c0,g.c1,g.c2,g.c3,g.c4,g.c5,g.lo,g.hi],L] w (Bh w (tT g L 3)):=by
 obtain⟨i0,i1⟩:=iN w (.cells #[g.nm,g.form,g.c0,g.c1,g.c2,g.c3,g.c4,g.c5,g.lo,g.hi] 115) (.cells #[false,oN,false,oN] 180);have s:=O (iH (w:=w) (.cells #[g.nm,g.form,g.c0,g.c1,g.c2,g.c3,g.c4,g.c5,g.lo,g.hi] 115) (.cells #[false,oN,false,oN] 180));have I0:=O i0;have I1:=O i1;have Hf:=O hf;have i9:=O h9;have a2:=O m;clear i0 i1 hf h9 m;go_enter func129,ntmps129;go_upto_region 1 with fail;refine jp (fun r=>Nd r w g/\pO r (w+1) false none 0 0 false none 0 0/\Below w w r) ⟨I0,I1,s⟩ ?_;clear I0 I1 s;rintro w0 ⟨q,z,h4⟩;have lg:=TK q;have l0:=TK z;have z1:=(ml q).2.1;have hf:=Hf.out;have JG:=O q;have J0:=O z;have i7:=O h4;clear q z h4;go_wp2_with fail;refine(uA L 1 w0 h1 h2 (by omega) (by omega)).mono ?_;clear z1;rintro e w1 ⟨s1,a1,m1,c1,b1,k1,d1,rfl,D,a3⟩;have b2:=qb h1 h2 (n:=1) (by omega) (by omega);have d:=O (kG.new D);have B:=(TH w1 w1).alloc (ag _) (.cells #[s1,Z a1 m1 c1,false,Z b1 k1 d1] 180);have l1:=a3.size;have s:=O (a3.trans (B.mono a3.size));clear D B a3;go_upto_region 5 with fail;refine jp (fun r=>kG r w1 (kN L 1)/\Below w0 w0 r) ⟨d,s⟩ ?_;clear d s;rintro w2 ⟨Q,e4⟩;have n8:=O l1;generalize w1.heap.size=g6 at*;clear l1;have q:=(e4.block _ lg).trans JG;have m5:=TK q;have A:=Q.lt;obtain⟨z0,z1,z2,z3,z4,z5,z6,z7,z8,z9⟩:=ml q;have q2:=i9.out;have d:=O Q;have T:=O e4;clear Q e4 q;go_upto_region 6 with fail;clear z0 z1 z2 z3 z4 z5 z6 z7 z8 z9;go_wp2_with fail;refine(pQ 1 1 _ (by omega) (by omega) (by omega) (by omega)).mono ?_;rintro e w3 ⟨s1,a1,m1,c1,b1,k1,d1,rfl,D,C⟩;rw[show mkRat 1 1=tT g L 0 from rfl]at D;have F:=O (kG.new D);have B:=(TH w3 w3).alloc (ag _) (.cells #[s1,Z a1 m1 c1,false,Z b1 k1 d1] 180);have g8:=O ((d.go C).go B);have s:=O (T.trans ((C.trans (B.mono C.size)).mono T.size))
 have b0:g6≠w3.heap.size:=by have:=d.lt;have:=C.size;omega
 have f1:=O (show w0.heap.size<=w3.heap.size from af T.size C.size);have f2:=O b0;clear D B C b0 d T;go_upto_region 7 with fail;refine jp (fun r=>kG r w3 (tT g L 0)/\kG r g6 (kN L 1)/\Below w0 w0 r) ⟨F,g8,s⟩ ?_;clear F g8 s;rintro w4 ⟨v7,Q,h5⟩;generalize w3.heap.size=g7 at*;have F:=O v7;have d:=O Q;have g4:=O h5;clear v7 Q h5 A m5;go_wp2
 go_loopw [8] (fun iv wr=>∃i:Nat,iv=.int .i64 ((2*i:Nat):Int)/\i<=3/\kG wr g7 (tT g L i)/\kG wr g6 (kN L 1)/\Below w0 w0 wr) (fun iv _=>6-(intOf iv).toNat)
 case atStart=>exact⟨0,rfl,aA _,F,d,g4⟩
 case round=>
  obtain⟨i,rfl,hi,v7,Q,h7⟩:=hrel;have H:=O h7;obtain⟨s7,a7,m7,c7,b7,k7,d7,q7,f7⟩:=v7;obtain⟨x0,x1,x2,x3⟩:=gL q7;have l7:=TK q7;have Q7:=O q7;have F7:=O f7;clear h7 q7 f7 F d g4;by_cases hlt:i<3
  .obtain⟨s6,a6,m6,c6,b6,k6,d6,q6,f6⟩:=Q
   obtain⟨y0,y1,y2,y3⟩:=gL q6;have A:=TK q6;have q:=(H.block _ lg).trans JG;have f0:=TK q;have u0:=EL q (i:=2*i) (by omega);have u1:=EL q (i:=2*i+1) (by omega);have p9:=hg (2*i);have q0:=hg (2*i+1);have h8:=tf hg (2*i);have m:=a2 i hlt;have l8:=Di hg h1 h2 a2 i (by omega);have j1:=O (show tT g L (i+1)=tT g L i+pT g (2*i)*kN L 1/(kN L 1+mkRat (-(g.co (2*i+1))) 1000000000)from rfl);have i8:=O (show mkRat (g.co (2*i)) 1000000000=pT g (2*i)from rfl);have i2:Sz 3 (mkRat (-(g.co (2*i+1))) 1000000000):=Sz.mk (by omega) (by omega) (by omega);have i4:Sz 11 (pT g (2*i)*kN L 1):=(h8.mul b2).mono (by omega);have i3:Sz 13 (kN L 1+mkRat (-(g.co (2*i+1))) 1000000000):=(b2.add i2).mono (by omega);have l5:Sz 24 (pT g (2*i)*kN L 1/(kN L 1+mkRat (-(g.co (2*i+1))) 1000000000)):=(i4.div i3 m).mono (by omega);have f5:IntKind.i64.wrap (-(g.co (2*i+1)))= -(g.co (2*i+1)):=TM _ (by omega);generalize g.co (2*i+1)=ck at*;generalize g.co (2*i)=cj at*;generalize pT g (2*i)=rj at*;generalize hrn:tT g L (i+1)=rn at*;have j2:=O hrn;generalize tT g L i=r7 at*;generalize kN L 1=W at*;generalize hj:2*i=j at*;have Hj:=O hj;have Q6:=O q6;have F6:=O f6
   have q3:(j:Int) <6:=by omega
   have l2:(j:Int)+1<6:=by omega
   have l3:(0:Int)<=(j:Int)+1:=by omega
   have m0:IntKind.i64.wrap ((j:Int)+1)=((j+1:Nat):Int):=by rw[TM _ (by omega)];rfl
   clear hrn q q6 f6 hj;go_upto_region 10 with fail;refine ic 10 [] [(9,9,(.cells #[false,oN,false,oN] 180))] [(0,true),(1,true),(2,true),(3,true),(4,true),(5,true),(6,true),(7,false),(8,false)] (by kernel_rfl) (by kernel_rfl) ⟨by simp,by simp,by(simp only[ct];exact⟨⟨by omega,_,rfl,rfl,rfl,fun _ _=>rfl⟩,fun _ h=>by cases h⟩)⟩ (fun _ _ _ _ _ h=>h) (fun _ _ o _ _ h=>by cases o<;>exact h) ?_
   iterate 7
    refine gZ (v:=?_) ?_ ?_;rotate_left
    .intro y b
     have p0:=(b.cell (p:=J g6) A).trans y0;have p1:=(b.cell (p:=⟨g6,1,none⟩) A).trans y1;have p2:=(b.cell (p:=⟨g6,2,none⟩) A).trans y2;have p3:=(b.cell (p:=⟨g6,3,none⟩) A).trans y3;have p4:=(b.cell (p:=⟨w.heap.size,2+(j+1),none⟩) f0).trans u1;go_simp;with_reducible rfl
    try simp only[V]
   clear y0 y1 y2 y3 u1 m0 l2 l3;have f3:=f5;refine iK (fun xa e9 K hK=>?_);go_simp;refine(pQ (-ck) 1000000000 xa (by omega) (by omega) (by omega) (by omega)).mono ?_;rintro e wa ⟨s8,a8,m8,c8,b8,k8,d8,rfl,f8,x⟩;refine hK _ _ x ?_;clear hK K;(try simp only[V]);have X:=O ((gJ (k:=1) e9).trans (x.mono (gJ (k:=1) e9).size));have G8:=O f8;clear f8 x e9 f3;refine iK (fun xb N K hK=>?_);go_simp;refine(tR W (mkRat (-ck) 1000000000) 9 3 s6 s8 a6 b6 a8 b8 m6 k6 c6 d6 m8 k8 c8 d8 xb ((F6.go X).go N) (G8.go N) b2 i2 (by omega)).mono ?_;rintro e wb ⟨s9,a9,m9,c9,b9,k9,d9,rfl,M,f⟩;refine hK _ _ f ?_;clear hK K;(try simp only[V]);have i5:=N.trans (f.mono N.size);have b5:=O (X.trans (i5.mono X.size));have G9:=O M;clear M i5 f N G8 X;refine nV (l:=[_]) rfl (fun t w5 hC e5 h6=>?_);(try simp only[V]);have e8:wr.heap.size<=t:=hC.1.1;have a5:=b5.trans (e5.mono b5.size);have M:=G9.go e5;have P:pO w5 t false none 0 0 false none 0 0:=h6;have g3:=O (show kG ((((w5.setCell (J t) (.bool s9)).setCell ⟨t,1,none⟩ (.slice a9 m9 c9)).setCell ⟨t,2,none⟩ (.bool false)).setCell ⟨t,3,none⟩ (.slice b9 k9 d9)) t (W+mkRat (-ck) 1000000000)from⟨_,_,_,_,_,_,_,kl P,M.putG P⟩);obtain⟨p0,p1,p2,p3⟩:=gL P;have e0:=gD P 0;have e1:=gD P 1;have e2:=gD P 2;have e3:=gD P 3;have g5:=O (iR (u:=.bool s9) (v:=.slice a9 m9 c9) (u2:=.bool false) (v2:=.slice b9 k9 d9) a5 e8);have n9:=O e8;clear a5 P M e8 h6 e5 hC G9 b5;go_upto_region 11 with fail;refine jp (fun r=>kG r t (W+mkRat (-ck) 1000000000)/\Below wr wr r) ⟨g3,g5⟩ ?_;clear e0 e1 e2 e3 p0 p1 p2 p3 g3 g5;rintro w6 ⟨v9,a⟩;obtain⟨s9,a9,m9,c9,b9,k9,d9,q9,M⟩:=v9;obtain⟨p0,p1,p2,p3⟩:=gL q9;have l9:=TK q9;have y0:=(a.cell (p:=J g6) A).trans (gL Q6).1;have y1:=(a.cell (p:=⟨g6,1,none⟩) A).trans (gL Q6).2.1;have y2:=(a.cell (p:=⟨g6,2,none⟩) A).trans (gL Q6).2.2.1;have y3:=(a.cell (p:=⟨g6,3,none⟩) A).trans (gL Q6).2.2.2;have t0:=(a.cell (p:=J g7) l7).trans x0;have t1:=(a.cell (p:=⟨g7,1,none⟩) l7).trans x1;have t2:=(a.cell (p:=⟨g7,2,none⟩) l7).trans x2;have t3:=(a.cell (p:=⟨g7,3,none⟩) l7).trans x3;have t4:=(a.cell (p:=⟨w.heap.size,2+j,none⟩) f0).trans u0;have n6:g6<w6.heap.size:=eb A a.size;have n7:g7<w6.heap.size:=eb l7 a.size;have ng:w.heap.size<w6.heap.size:=eb f0 a.size;have F9:=O M;have b4:=O a;clear M a x0 x1 x2 x3 u0;refine gS 11 [(0,true),(1,true),(2,true),(3,true),(4,true),(6,true),(8,true),(5,false),(7,false),(9,false),(10,false)] (by kernel_rfl) (by kernel_rfl) ?_
   iterate 7
    refine gU (v:=?_) ?_ ?_;rotate_left
    .intro y b
     have o0:=(b.cell (p:=J g6) n6).trans y0;have o1:=(b.cell (p:=⟨g6,1,none⟩) n6).trans y1;have o2:=(b.cell (p:=⟨g6,2,none⟩) n6).trans y2;have o3:=(b.cell (p:=⟨g6,3,none⟩) n6).trans y3;have o4:=(b.cell (p:=J g7) n7).trans t0;have o5:=(b.cell (p:=⟨g7,1,none⟩) n7).trans t1;have o6:=(b.cell (p:=⟨g7,2,none⟩) n7).trans t2;have o7:=(b.cell (p:=⟨g7,3,none⟩) n7).trans t3;have o8:=(b.cell (p:=J t) l9).trans p0;have o9:=(b.cell (p:=⟨t,1,none⟩) l9).trans p1;have q8:=(b.cell (p:=⟨t,2,none⟩) l9).trans p2;have r0:=(b.cell (p:=⟨t,3,none⟩) l9).trans p3;have r1:=(b.cell (p:=⟨w.heap.size,2+j,none⟩) ng).trans t4;go_simp;with_reducible rfl
    try simp only[V]
   clear y0 y1 y2 y3 t0 t1 t2 t3 t4 p0 p1 p2 p3;refine gP (fun R c=>?_);go_simp;refine(pQ cj 1000000000 _ (by omega) (by omega) (by omega) (by omega)).mono ?_;rintro e wa ⟨n3,j3,n0,j9,j6,m2,k3,rfl,d4,x⟩;refine c _ _ x ?_;clear c R;(try simp only[V]);rw[i8]at d4;have E:Below w6 w6 wa:=gJ (k:=1) x;have b3:=b4.trans (E.mono b4.size);have A6:=O (F6.go b3);have A7:=O (F7.go b3);have A9:=O (F9.go E);have d0:=O b3;have g0:=O d4;clear x E b3 d4 F9 b4;refine gP (fun R c=>?_);go_simp;refine(nM rj W 2 9 n3 s6 j3 j6 a6 b6 n0 m2 j9 k3 m6 k6 c6 d6 _ (by exact g0) (by exact A6) h8 b2 (by omega)).mono ?_;rintro e wb ⟨n4,j4,n1,k0,j7,m3,k4,rfl,h0,f⟩;refine c _ _ f ?_;clear c R;(try simp only[V]);have d2:=O (d0.trans (f.mono d0.size));have B7:=O (A7.go f);have B9:=O (A9.go f);have g1:=O h0;clear f h0 A6 A7 A9 g0 d0;refine gP (fun R c=>?_);go_simp;refine(Cb (rj*W) (W+mkRat (-ck) 1000000000) 11 13 n4 s9 j4 j7 a9 b9 n1 m3 k0 k4 m9 k9 c9 d9 _ (by exact g1) (by exact B9) i4 i3 (by omega) m).mono ?_;rintro e wc ⟨n5,j5,n2,k2,j8,m4,k5,rfl,h3,a4⟩;refine c _ _ a4 ?_;clear c R;(try simp only[V]);have d3:=O (d2.trans (a4.mono d2.size));have C7:=O (B7.go a4);have g2:=O h3;clear a4 h3 B7 B9 g1 d2;refine gP (fun R c=>?_);go_simp;refine(tR r7 (rj*W/(W+mkRat (-ck) 1000000000)) (30*i+1) 24 s7 n5 a7 b7 j5 j8 m7 k7 c7 d7 n2 m4 k2 k5 _ (by exact C7) (by exact g2) l8 l5 (by omega)).mono ?_;rintro e wd ⟨r2,p5,q5,p8,p6,q4,q1,rfl,d5,e6⟩;refine c _ _ e6 ?_;clear c R;(try simp only[V]);rw[<- j1]at d5;have e7:=d3.trans (e6.mono d3.size);have S:=(e7.block _ l7).trans Q7;obtain⟨x0,x1,x2,x3⟩:=gL S;have e0:=gD S 0;have e1:=gD S 1;have e2:=gD S 2;have e3:=gD S 3;have P7:=O S;have i6:=O d5;have a0:=O e7;clear S d5 e7 e6 d3 C7 g2;refine iu rfl ?_;go_wp2
   go_roundw
   case rel=>
    have V7:kG wr g7 r7:=⟨_,_,_,_,_,_,_,Q7,F7⟩;have V6:kG wr g6 W:=⟨_,_,_,_,_,_,_,Q6,F6⟩;exact⟨i+1,by have:=Hj.out;go_num,by omega,by rw[j2];exact(V7.go a0).put i6,(V6.go a0).other (V7.go a0) f2,iR (H.trans (a0.mono H.size)) f1⟩
   case measure=>have:=Hj.out;simp[intOf];omega
  .have l4:i=3:=by omega
   subst l4;have z:=(H.block _ l0).trans J0;obtain⟨y0,y1,y2,y3⟩:=gL z;have e0:=gD z 0;have e1:=gD z 1;have e2:=gD z 2;have e3:=gD z 3;have J1:=O z;clear z;go_wp2_with fail;have f4:=kl (s':=s7) (a':=a7) (n':=m7) (c':=c7) (t':=false) (b':=b7) (m':=k7) (d':=d7) J1;obtain⟨z0,z1,z2,z3⟩:=gL f4;refine ar (v:=.agg #[s7,Z a7 m7 c7,false,Z b7 k7 d7]) ?_ rfl ?_
   .simp[results,results129,go_sem,z0,z1,z2,z3]
   .exact⟨s7,a7,m7,c7,b7,k7,d7,rfl,F7.putG J1,iR (i7.trans (H.mono (by omega))) (bY _)⟩
def GY(g:jQ)(L:Int)(w:World)(d:g.In)(h1:0<L)(h2:L<=2500000)(c:g.Far L):
 Calls prog 129 #[.agg #[g.nm,g.form,g.c0,g.c1,g.c2,g.c3,g.c4,g.c5,g.lo,g.hi],L] w (Bh w (iL g L)):=by
 by_cases b:g.form=2
 .exact EM g L w d h1 h2 b
 .by_cases a:g.form=1
  .have:=EN g L w d h1 h2 (by simpa using b) (by simpa using a) (c a)
   unfold iL;rw[aj b,aq a];exact this
  .have:=Bi g L w d h1 h2 (by simpa using b) (by simpa using a)
   unfold iL;rw[aj b,aj a];exact this
def KG(r:Rat)(k:Nat)(s:Bool)(a b:Option Addr)(n m c d:Nat)(w:World)(h:QL w w s a n c b m d r)(S:Sz k r)(X:k<=599):
 Calls prog 130 #[.agg #[s,Z a n c,false,Z b m d]] w (iZ w (.tuple #[.int .i64 (oG r.num 0),oZ])):=by
 have hm:=h.m S;have j:=(TH w w).alloc (ag _) (.cells #[s,Z a n c,false,Z b m d] 180);have H:=O (show pO (w.alloc (.cells #[s,Z a n c,false,Z b m d] 180)) w s a n c false b m d from TL w _);have HQ:=O (h.go j);have x:=O j;clear j h;go_enter func130,ntmps130;go_upto_region 1 with fail;refine jp (fun t=>pO t w s a n c false b m d/\QL t t s a n c b m d r/\Below w w t) ⟨H,HQ,x⟩ ?_;clear H HQ x;rintro w0 ⟨Q:HQ _,F:HQ _,Hb0:HQ _⟩;obtain⟨u,x1,x2,D⟩:=gL Q;have T:=TK Q;go_wp2_with fail;refine(mF r s a b n m c d w0 F (by omega)).mono ?_;rintro e L ⟨rfl,i⟩;clear u x1 x2 D;have q:=(i.block _ T).trans Q;obtain⟨u,x1,x2,D⟩:=gL q;have l1:=TK q;have N:=O (F.go i);have z:=O (Hb0.trans (i.mono Hb0.size));clear q i F Hb0 Q;go_upto_region 3 with fail;refine gS 4 [(0,true),(1,true),(2,false),(3,false)] (by kernel_rfl) (by kernel_rfl) ?_
 iterate 2
  refine gU (v:=?_) ?_ ?_;rotate_left
  .intro y K
   have y0:=(K.cell (p:=J (w.heap.size)) l1).trans u;have y1:=(K.cell (p:=⟨w.heap.size,1,none⟩) l1).trans x1;go_simp;with_reducible rfl
  try simp only[V]
 clear u x1 x2 D;refine gP (fun C g=>?_);go_simp;refine(oT 0 _ (by omega) (by omega)).mono ?_;rintro e M ⟨s2,a2,W,c2,rfl,B,l,-⟩;refine g _ _ l ?_;clear g C;(try simp only[V]);have f:Below L L M:=gJ (k:=1) l;have P:=O (N.n.go f);have A:=O (z.trans (f.mono z.size));have R:=O B;clear l f B;refine gP (fun C g=>?_);go_simp;refine(uy s s2 r.num 0 a a2 n W c c2 M P R).mono ?_;rintro e w3 ⟨rfl,o⟩;refine g _ _ o ?_;clear g C;(try simp only[V]);have E:=O (A.trans (o.mono A.size));clear o;refine iu rfl ?_;go_wp2_with fail;refine ar (v:=.tuple #[.int .i64 (oG r.num 0),oZ]) ?_ rfl ⟨rfl,E⟩;simp[results,results130,go_sem]
def Cd(r:Rat)(k:Nat)(s:Bool)(a b:Option Addr)(n m c d:Nat)(w:World)(h:QL w w s a n c b m d r)(t:Sz k r)(p:k<=599):
 Calls prog 91 #[.agg #[s,Z a n c,false,Z b m d]] w (iZ w (.int .i64 (oG r.num 0))):=by
 have f:=(TH w w).alloc (ag _) (.cells #[s,Z a n c,false,Z b m d] 180);have o:=O (show pO (w.alloc (.cells #[s,Z a n c,false,Z b m d] 180)) w s a n c false b m d from TL w _);have HQ:=O (h.go f);have i:=O f;clear f h;go_enter func91,ntmps91;go_upto_region 1 with fail;refine jp (fun g=>pO g w s a n c false b m d/\QL g g s a n c b m d r/\Below w w g) ⟨o,HQ,i⟩ ?_;clear o HQ i;rintro w0 ⟨q,F:HQ _,Hb0:HQ _⟩;obtain⟨u,x1,x2,v⟩:=gL q;clear q;go_wp2_with fail;refine(KG r k s a b n m c d w0 F t p).mono ?_;rintro e x ⟨rfl,j⟩;have l:=O (Hb0.trans (j.mono Hb0.size));clear j u x1 x2 v;go_wp2;go_ret;exact⟨rfl,l⟩
