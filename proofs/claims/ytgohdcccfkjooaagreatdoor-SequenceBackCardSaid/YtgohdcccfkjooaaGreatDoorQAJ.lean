import Derived.Test.YtgohdcccfkjooaaGreatDoorQAI
import Derived.Lib.SpaceUEq
namespace Go.Proofs.YtgohdcccfkjooaaGreatDoor
set_option linter.all false
set_option maxRecDepth 100000
set_option maxHeartbeats 3200000
open Go.Proofs.Tryz Go.RowKit Go.Lib
def S4(w:World)(k:Nat)(zs:List Int)(n:Nat)(e:Ending)(w':World):Prop:=
 ∃a c,e=.returned (.slice a n c)/\IRp (fun b=>w.heap.size<=b/\b<w'.heap.size) w' k a n c zs/\(a=none->c=0)/\Below w w w'
def lc{w base k n T v zs}(h:w.ownsRow base T k v n (zs.map (Value.int .i64))):∃a c,v=.slice a n c/\(a=none->c=0)/\IRp (fun b=>base<=b/\b<w.heap.size) w k a n c zs:=by
 have f:=h.1;rw[aU]at f
 obtain ⟨rfl,rfl⟩|⟨g,cap,p,rfl,l,m,o,s,t,u⟩:=id h.2
 .obtain rfl:zs=[]:=aX.1 (by rw[f,eB])
  exact⟨none,0,rfl,fun _=>rfl,IRp.nil _ _ _ _ _⟩
 .refine⟨_,cap,rfl,(fun e=>by cases e),f,o,fun r=>⟨g,0,rfl,⟨l,TK m⟩,fun j q=>?_⟩⟩
  have d:j<zs.length:=by omega
  have i:=h.cells (g:=g) rfl j (.int .i64 (zs.getD j 0)) (by rw[aR,ae d];simp[ah,d]);rw[Addr.add_mid]at i;exact i
def IRp.none{S:Nat->Prop}{w k n c zs}(h:IRp S w k Option.none n c zs):n=0/\zs=[]:=by
 have:n=0:=by
  apply bg;intro a
  obtain⟨b,off,e,_⟩:=h.2.2 (by omega);cases e
 subst this;exact⟨rfl,aX.1 (by rw[h.1,eB])⟩
def je{ops f o a}{Q:Exit->Act->World->Prop}{w T l z k d}(t:prog.underlying l=some (.slice T))(C:(prog.info? T).map (fun i=>(i.zero,i.size,i.bytes))=some (some z,k,d))(K:z.cells.size=k)(D:0<k)(y:d<=10000)(A:o.guard=none)(s x)(H:o.op=.call {callee:=.builtin .append,args:=#[s,x],argTypes:=#[l,l]})(base v n xs)(hs:a.eval s=v)(hrow:w.ownsRow base T k v n (xs.map (Value.int .i64)))(S:Nat->Prop)(sp m c ys)(hx:a.eval x=.slice sp m c)(hy:IRp S w k sp m c ys)(r:sp=Option.none->c=0)(hn:n+m<=10000000)(hbase:base<=w.heap.size)(h:∀p w',w'.ownsRow base T k p (n+m) ((xs++ys).map (Value.int .i64))->w.grownBy w' v.ownBlock->wpList prog ops Q f (a.put o.dst p) w'):
 wpList prog ops Q (o::f) a w:=by
 have E:=hy.1;refine mS A s x l H base T z k d t C K D v n _ hs hrow sp m c (ys.map (Value.int .i64)) hx (by rw[aU,E]) ?_ (by simp[Value.oneCell']) ?_ (af (cB hn y) (by omega)) (by omega) hbase ?_
 .intro F
  obtain⟨b,off,e,_,r⟩:=hy.2.2 F;refine⟨b,off,e,fun j u g=>?_⟩
  have q:j<ys.length:=by
   apply bg;intro B
   rw[bz (by simp;omega)]at g;cases g
  have:=r j (by omega);rw[aR,ae q]at g;simp at g;subst g;rw[this];simp[ah,q]
 .intro e
  subst e;exact⟨(hy.none).1,r rfl⟩
 .intro p w' h1 h2
  exact h p w' (by rw[aT];exact h1) h2
def Tryz.infoFilm3:(prog.info? 67).map (fun i=>(i.zero,i.size,i.bytes))=some (some (.agg #[oZ,oZ,oZ]),3,24):=by kernel_rfl
def Tryz.infoChange3:(prog.info? 72).map (fun i=>(i.zero,i.size,i.bytes))=some (some (.agg #[oZ,oZ,oZ]),3,24):=by kernel_rfl
def Tryz.infoField2:(prog.info? 112).map (fun i=>(i.zero,i.size,i.bytes))=some (some (.agg #[oZ,oZ]),2,16):=by kernel_rfl
def Tryz.infoWave2:(prog.info? 63).map (fun i=>(i.zero,i.size,i.bytes))=some (some (.agg #[oZ,oZ]),2,16):=by kernel_rfl
def Tryz.infoSurf3:(prog.info? 70).map (fun i=>(i.zero,i.size,i.bytes))=some (some (.agg zS),22,200):=by kernel_rfl
def Tryz.infoConfig3:(prog.info? 75).map (fun i=>(i.zero,i.size,i.bytes))=some (some (.agg #[ik,oN]),2,40):=by kernel_rfl
def zi(zs a n c)(w:World)(h:IR w w 3 a n c zs)(r:n<=1000000)(m:a=none->c=0):
 Calls prog 242 #[Z a n c] w (S4 w 3 zs n):=by
 have H:=O h;clear h
 cases a with
 |none=>
  obtain rfl:=m rfl
  have o:=fun w=>Lib.run_eql_slice_nil (P:=prog) w 68 67 none n 0 0 0 underlying68
  go_enter func242,ntmps242
  go_wp2;go_ret;obtain⟨rfl,rfl⟩:=(H.irp (S:=fun _=>True) (fun _ _=>trivial)).none;exact⟨none,0,rfl,IRp.nil _ _ _ _ _,fun _=>rfl,TH _ _⟩
 |some l=>
  clear m
  have o:=fun w=>Lib.run_eql_slice_nil (P:=prog) w 68 67 (some l) n c 0 0 underlying68
  go_enter func242,ntmps242
  go_wp2_with(refine je underlying68 Tryz.infoFilm3 rfl (by omega) (by omega) rfl (.tmp 5) (.tmp 6) rfl w (.slice (J (w.heap.size)) 0 0) 0 [] rfl (World.ownsRow_made w #[] 0 (aa _) (by simp) rfl) (fun b=>b<w.heap.size) (some l) n c zs rfl (IR.irp (H.below ((TH _ _).alloc (aa _) _) (aa _)) (fun _ h=>h)) (fun e=>by cases e) (by omega) (by simp) ?_;intro s q g d;have f:Below w w q:=((TH _ _).alloc (aa _) _).grown d (by simp) (by intro k p;simp[Value.ownBlock]at p;omega);have j:=O g;have i:=O f;clear g d f)
  go_wp2;go_ret;obtain⟨a',c',rfl,h1,h2⟩:=lc (zs:=zs) (by simpa using j.out);exact⟨a',c',rfl,by simpa using h2,h1,i⟩
structure gM where
 s:gW
 zs:List Int
def gX(s:gW)(a:Option Addr)(n c:Nat):List Value:=[.int .i64 s.kind,.int .i64 s.curv,.int .i64 s.conic,.int .i64 s.curvX,.int .i64 s.conicX,.int .i64 s.a0,.int .i64 s.a1,.int .i64 s.a2,.int .i64 s.a3,.int .i64 s.p0,.int .i64 s.p1,.int .i64 s.order,.int .i64 s.thick,.string s.glass,.int .i64 s.semi,.int .i64 s.hole,.int .i64 s.dx,.int .i64 s.dy,.int .i64 s.ax,.int .i64 s.ay,.int .i64 s.az,.slice a n c]
def jE:pB gM:=fun S w x cs=>∃a n c,cs=gX x.s a n c/\IRp S w 3 a n c x.zs/\n<=1000000/\(a=none->c=0)/\x.s.glass.size<=9223372036854775807
def iD:kR 22 jE where
 len:=by rintro S w x cs ⟨a,n,c,rfl,_⟩;rfl
 kept:=by rintro S T w w' x cs ⟨a,n,c,e,h,r⟩ d f;exact⟨a,n,c,e,h.kept d f,r⟩
 one:=by rintro S w x cs ⟨a,n,c,rfl,_⟩ v b;unfold gX at b;simp only[aS,bi,cR]at b;obtain rfl|rfl|rfl|rfl|rfl|rfl|rfl|rfl|rfl|rfl|rfl|rfl|rfl|rfl|rfl|rfl|rfl|rfl|rfl|rfl|rfl|rfl:=b<;>rfl
def A1(w:World)(cs T i v):(w.alloc (.cells cs T)).setCell ⟨w.heap.size,i,none⟩ v=w.alloc (.cells (cs.setIfInBounds i v) T):=by
 have e:(w.heap.push (Obj.cells cs T)).modify w (fun o=>match o with| .cells cs t fr=>.cells (cs.setIfInBounds i v) t fr|o=>o)=w.heap.push (Obj.cells (cs.setIfInBounds i v) T):=by
  apply Array.ext
  .simp
  .intro j h1 h2
   rw[Array.getElem_modify,Array.getElem_push,Array.getElem_push]
   by_cases a:j<w.heap.size
   .rw[aj (by omega),fo a,fo a]
   .have:w.heap.size=j:=by simp at h2;omega
    rw[aq this,eJ a,eJ a]
 show({w.alloc (.cells cs T)with heap:=_}:World)={w with heap:=_}
 rw[<- e];rfl
def tI:∀(d:List Value)(w:World)(b c a:List Value)(T:TypeId),c.length=d.length->(w.alloc (.cells (b++c++a).toArray T)).setCells w b.length d=w.alloc (.cells (b++d++a).toArray T)
 |[],w,b,c,a,T,h=>by
  obtain rfl:c=[]:=aX.1 h;rfl
 |v::d,w,b,o::c,a,T,h=>by
  rw[World.setCells,A1]
  have e:((b++o::c++a).toArray.setIfInBounds b.length v)=((b++[v])++c++a).toArray:=by
   rw[bK,aC,fO,aj (by omega),eC];simp
  rw[e];have:=tI d w (b++[v]) c a T (by simpa using h);rw[al]at this;simpa using this
def J8(w:World)(cs:List Value)(b:cs.length=22)(s a n c):vS (w.alloc (.cells cs.toArray 70)) w s a n c=w.alloc (.cells (⟨s,a,n,c⟩:jt) 70):=by
 have:=tI (gX s a n c) w [] cs [] 70 (by rw[b];rfl);simp only[bD,bG,cI]at this;exact this
def lC{ops b e d W}{Q:Exit->Act->World->Prop}(s a n c)(w:World)(g:W=w.alloc (.cells zS 70))(f:e.guard=none)(x y)(i:e.op=.store 70 x y)(j:d.eval x=.pointer (J (w.heap.size)))(k:d.eval y=.agg (⟨s,a,n,c⟩:jt))(h:wpList prog ops Q b (d.put e.dst undef) (w.alloc (.cells (⟨s,a,n,c⟩:jt) 70))):wpList prog ops Q (e::b) d W:=by
 subst g;refine hE s a n c (TL w _) rfl f x y i j k ?_;rw[J8 w [oZ,oZ,oZ,oZ,oZ,oZ,oZ,oZ,oZ,oZ,oZ,oZ,oZ,ik,oZ,oZ,oZ,oZ,oZ,oZ,oZ,oN] rfl];exact h
def lw{ops d e f w}{Q:Exit->Act->World->Prop}{b o s a n c}(h:w.rangeAt b o (gX s a n c))(g:e.guard=none)(x)(j:e.op=.load 70 x)(k:f.eval x=.pointer (some ⟨b,o,none⟩))(i:wpList prog ops Q d (f.put e.dst (.agg (⟨s,a,n,c⟩:jt))) w):wpList prog ops Q (e::d) f w:=
 wpList_load_mid g 70 x j b o k (gX s a n c) _ h underlying70 rfl Tryz.infoSurf i
def pV{P ops}{Q:Exit->Act->World->Prop}{a w b o}(hw:Region.wanted o (yielded ops a.tmps)=true)(h:∀K:Act->World->Prop,(∀a w,wpList P ops Q b a w->K a w)->o.wp P a w K Q):wpList P ops Q (o::b) a w:=
 wpList_step fun K c=>by rw[aq hw];exact h K c
def zj{ops b e d w}{Q:Exit->Act->World->Prop}{g s a n c}(h:Y w g s a n c)(f:Region.wanted e (yielded ops d.tmps)=true)(x)(k:e.op=.load 70 x)(l:d.eval x=.pointer (J g))(j:wpList prog ops Q b (d.put e.dst (.agg (⟨s,a,n,c⟩:jt))) w):wpList prog ops Q (e::b) d w:=
 pV f fun K i=>wp_load_mid 70 x k g 0 l [s.kind,s.curv,s.conic,s.curvX,s.conicX,s.a0,s.a1,s.a2,s.a3,s.p0,s.p1,s.order,s.thick,s.glass,s.semi,s.hole,s.dx,s.dy,s.ax,s.ay,s.az,Z a n c] _ h.range underlying70 rfl Tryz.infoSurf (i _ _ j)
def pW{ops d f e w}{Q:Exit->Act->World->Prop}{b o s a n c}(h:w.rangeAt b o (gX s a n c))(g:Region.wanted f (yielded ops e.tmps)=true)(x)(k:f.op=.load 70 x)(l:e.eval x=.pointer (some ⟨b,o,none⟩))(j:wpList prog ops Q d (e.put f.dst (.agg (⟨s,a,n,c⟩:jt))) w):wpList prog ops Q (f::d) e w:=
 pV g fun K i=>wp_load_mid 70 x k b o l (gX s a n c) _ h underlying70 rfl Tryz.infoSurf (i _ _ j)
def Y.coat{w g s a n c}(h:Y w g s a n c)(a' n' c'):Y (w.setCell ⟨g,21,none⟩ (.slice a' n' c')) g s a' n' c':=by
 have:=gG h 21 (.slice a' n' c');simp only[bK,aZ,aW]at this;exact this
def Ph(w:World)(s:gW)(zs:List Int)(n:Nat)(e:Ending)(w':World):Prop:=
 ∃a c,e=.returned (.agg (⟨s,a,n,c⟩:jt))/\IRp (fun b=>w.heap.size<=b/\b<w'.heap.size) w' 3 a n c zs/\(a=none->c=0)/\Below w w w'
def ML(s zs a n c)(w:World)(v:IR w w 3 a n c zs)(Q:n<=1000000)(k:a=none->c=0):
 Calls prog 213 #[.agg (⟨s,a,n,c⟩:jt)] w (Ph w s zs n):=by
 have h1:=Y.new w s a n c;have h2:=TL (w.alloc (.cells (⟨s,a,n,c⟩:jt) 70)) (.cells zS 70);have d:=gY (o:=.cells zS 70) (gY (o:=.cells (⟨s,a,n,c⟩:jt) 70) (TH w w));rw[nB]at h2;have h:=O h1;have j:=O h2;have P:=O v;have M:=O k;have i:=O d;clear h1 h2 v k d
 go_enter func213,ntmps213
 go_upto_region 1 with fail
 refine gI (fun t=>Y t w s a n c/\t.heap[w.heap.size+1]? =some (.cells zS 70 (0,0))/\Below w w t) ⟨Y.go (B:=w.heap.size+1) h ((TH _ _).alloc (by simp) _) (by omega),j,i⟩ ?_;clear h j i;rintro w1 ⟨h1,h2,d⟩;have l:=h1.lt;have m:=TK h2;obtain⟨k0,k1,R,S,T,W,X,k7,k8,k9,x,y,z,A,C,D,E,F,H,K,L,q⟩:=h1.cells;have h:=O h1;have j:=O h2;have i:=O d;clear h1 h2 d k0 k1 R S T W X k7 k8 k9 x y z A C D E F H K L
 go_wp2_with(first
  |((with_reducible refine(zi zs a n c _ (P.out.go i.out) Q M.out).mono ?_);rintro e r ⟨a',c',rfl,hi,k,g⟩;clear q;have fz:=Y.free (Y.go h g l) 21;have q:=(Y.cells (Y.go h g l)).2.2.2.2.2.2.2.2.2.2.2.2.2.2.2.2.2.2.2.2.2;have N:=O hi;have u:=O k;have f:=O g;clear hi k g)
  |(refine gO (Y.coat (Y.go h f l) a' n c') rfl (.tmp 1) rfl rfl ?_)
  |(refine hE s a' n c' (gF ((f.block _ m).trans j) ⟨w.heap.size,21,none⟩ (by simp) _) rfl rfl (.tmp 2) (.tmp 7) rfl rfl rfl ?_))
 refine ar (lu (s:=s) (a:=a') (n:=n) (c:=c') rfl rfl (Y.stored (gF ((f.block _ m).trans j) ⟨w.heap.size,21,none⟩ (by simp) _) rfl s a' n c')) rfl ?_;refine⟨a',c',rfl,N.kept ((gK w [_] 21 r).mono ?_|>.trans ((gK (w+1) (gX s a' n c') 0 _).mono ?_)) ?_,u,?_⟩
 .intro b d;have:=d.1;omega
 .intro b d;have:=d.1;omega
 .intro b d
  refine⟨by have:=d.1;have:=i.size;omega,?_⟩;have:=im (w+1) (gX s a' n c') 0 (r.setCell ⟨w.heap.size,21,none⟩ (.slice a' n c'))
  show b<((r.setCell ⟨w.heap.size,21,none⟩ (.slice a' n c')).setCells (w+1) 0 (gX s a' n c')).heap.size
  rw[this];simpa using d.2
 .exact Below.put22 ((I i f).setCell (p:=⟨w.heap.size,21,none⟩) (aa _) _) (by omega) _ _ _ _
def yB{ops c o a}{Q:Exit->Act->World->Prop}{w:World}{α}(R:pB α){k T d z b}(e:prog.underlying d=some (.slice T))(q:(prog.info? T).map (fun i=>(i.zero,i.size,i.bytes))=some (some z,k,b))(f:b<=10000)(g:o.guard=none)(x y)(t:o.op=Op.makeSlice d x y)(n:Nat)(u:a.eval x=.int .i64 0)(v:a.eval y=.int .i64 (n:Int))(s:n<=1000000)(h:∀w',jD R k T w w' (.slice (J (w.heap.size)) 0 n) []->Below w w w'->wpList prog ops Q c (a.put o.dst (.slice (J (w.heap.size)) 0 n)) w'):wpList prog ops Q (o::c) a w:=by
 obtain⟨i,j,l,m,p⟩:=sd q;refine wpList_make_own w g x y d t w T i z k e j l m .i64 .i64 (n:Int) n u v rfl ?_ (by unfold maxLen;omega) (aa _) ?_
 .rw[p];exact af (cB f s) (by omega)
 .intro w' h1 h2
  exact h w' ⟨[],rfl,by simp,h1,fun i x cs h=>by simp at h⟩ ((TH _ _).grown h2 (aa _) (fun k r=>by cases r))
def Pi{α:Type}(R:pB α)(k:Nat)(T:TypeId)(w:World)(l:List α)(e:Ending)(w':World):Prop:=
 ∃g c,e=.returned (.slice (J g) l.length c)/\jD R k T w w' (.slice (J g) l.length c) l/\Below w w w'
def mn{α:Type}{l:List α}{k x}(h:l[k]? =some x):l.take (k+1)=l.take k++[x]:=by
 rw[eK,h];rfl
def MM(l a n c w)(h:RR jE 22 (fun b=>b<w.heap.size) w a n c l)(hn:n<=1000000):
 Calls prog 212 #[Z a n c,.func (.func 213) #[] #[]] w (Pi jE 22 70 w l):=by
 have H:=O h;clear h;have d:=H.1
 go_enter func212,ntmps212
 go_wp2_with(at_make;refine yB jE underlying34 Tryz.infoSurf3 (by omega) rfl _ _ rfl n rfl rfl hn ?_;intro w1 p f;have X:=O p;have T:=O f;clear p f)
 go_loopw [5,13] (fun v C wr=>∃k:Nat,k<=n/\C=.int .i64 (k:Int)/\jD jE 22 70 w wr v (l.take k)/\(∃g c,v=.slice (J g) k c)/\Below w w wr) (fun _ C _=>n-(intOf C).toNat)
 case atStart=>exact⟨0,by omega,rfl,X,⟨_,_,rfl⟩,T⟩
 case round=>
  obtain⟨k,hk,rfl,p,⟨A,c1,rfl⟩,f⟩:=hrel;have o:=O p;have i:=O f;clear p f
  by_cases M:k<n
  .obtain⟨b,off,x,cs,rfl,hlt,P,⟨a2,j,c2,rfl,R,y,t,u⟩,N⟩:=(H.go iD i).at M
   have Hx:=O P;have Hz:=O (R.ir (fun _ h=>h));have F:=O t;have Hr:=O N;have K:=O u;clear P R t N u
   have W:(l.take k).length=k:=by rw[bn,d];omega
   go_wp2_with(first
    |(refine lw Hr rfl (.tmp 15) rfl rfl ?_)
    |(refine lC x.s a2 j c2 _ rfl rfl (.tmp 7) (.tmp 16) rfl rfl rfl ?_)
    |(refine gO (Y.new _ x.s a2 j c2) rfl (.tmp 7) rfl rfl ?_)
    |((with_reducible refine(ML x.s x.zs _ j c2 _ (Hz.out.go ((TH _ _).alloc (aa _) _)) y F.out).mono ?_);rintro e D ⟨a',c',rfl,hi,B,q⟩;have Hi:=O hi;have a0:=O B;have m:=O (I (gY (TH _ _)) q);have Q:jE (fun b=>w.heap.size<=b/\b<D.heap.size/\(Value.slice (J A) k c1).ownBlock≠some b) D x (gX x.s a' j c'):=⟨a',j,c',rfl,hi.kept (gN.refl _ _) (fun b f=>⟨by have:=f.1;have:=i.size;simp at*;omega,f.2,o.fresh (by have:=f.1;simp at this;omega)⟩),y,B,K⟩;have Hy:=O Q;clear hi B q Q)
    |(refine qU iD underlying34 Tryz.infoSurf3 rfl (by omega) (by omega) rfl (.tmp 17) (.tmp 21) rfl w D (.slice (J A) k c1) (l.take k) x (gX x.s a' j c') rfl (o.go iD m) rfl rfl Hy (by omega) (af i.size m.size) ?_;intro g3 S w3 z r;have L:=O z;have E:=O r;clear z r))
   go_roundw
   case rel=>exact⟨k+1,by omega,by go_num,by rw[mn Hx];have:=L.out;rwa[W]at this,⟨_,_,rfl⟩,E _ _ (aa _) (I i m)⟩
   case measure=>simp[intOf];omega
  .obtain rfl:k=n:=by omega
   go_wp2;go_ret;have:=o.out;rw[<- d,bf]at this;exact⟨A,c1,by rw[d];rfl,by rw[d];rw[d]at this;exact this,i⟩
structure jd where
 nm:ByteArray
 zs:List Int
def oB:pB jd:=fun S w x cs=>∃a n c,cs=[.string x.nm,.slice a n c]/\IRp S w 3 a n c x.zs/\n<=1000000/\(a=none->c=0)/\x.nm.size<=9223372036854775807
def ky:kR 2 oB where
 len:=by rintro S w x cs ⟨a,n,c,rfl,_⟩;rfl
 kept:=by rintro S T w w' x cs ⟨a,n,c,e,h,r⟩ d f;exact⟨a,n,c,e,h.kept d f,r⟩
 one:=by rintro S w x cs ⟨a,n,c,rfl,_⟩ v b;simp only[aS,bi,cR]at b;obtain rfl|rfl:=b<;>rfl
def jN(S:Nat->Prop)(w:World)(a:Option Addr)(n c:Nat)(zs:List Int):Prop:=
 w.ownsRow 0 67 3 (.slice a n c) n (zs.map (Value.int .i64))/\ ∀g,(Value.slice a n c).ownBlock=some g->S g
def xL{w:World}{b b' n k T v xs}(h:w.ownsRow b T k v n xs)(c:b'<=b):w.ownsRow b' T k v n xs:=
 ⟨h.1,h.2.imp id fun⟨g,cap,a,e,d,f⟩=>⟨g,cap,a,e,af c d,f⟩⟩
def jN.own{S:Nat->Prop}{w b n a c zs}(h:w.ownsRow b 67 3 (.slice a n c) n (zs.map (Value.int .i64)))(e:∀g,b<=g->g<w.heap.size->S g):jN S w a n c zs:=
 ⟨xL h (aA _),fun g d=>e g (h.lt g d).1 (h.lt g d).2⟩
def jN.nil(S:Nat->Prop)(w):jN S w none 0 0 []:=⟨World.ownsRow_nil _ _ _ _,fun g h=>by cases h⟩
def jN.kept{S T:Nat->Prop}{w w' a n c zs}(h:jN S w a n c zs)(i:gN S w w')(j:∀b,S b->T b):jN T w' a n c zs:=by
 obtain⟨⟨h1,h2⟩,h3⟩:=h;refine⟨⟨h1,h2.imp id ?_⟩,fun g f=>j g (h3 g f)⟩;rintro⟨g,cap,d,e,k,l,m⟩;exact⟨g,cap,d,e,k,(i g (h3 g (by rw[e];rfl))).trans l,m⟩
def jN.none{S:Nat->Prop}{w a n c zs}(h:jN S w a n c zs):a=none->c=0:=by
 intro e
 obtain ⟨b,_⟩|⟨g,cap,d,b,_⟩:=h.1.2
 .cases b;rfl
 .rw[e]at b;cases b
def jN.irp{S:Nat->Prop}{w a n c zs}(h:jN S w a n c zs):IRp S w 3 a n c zs:=by
 obtain⟨a',c',e,h1,h2⟩:=lc h.1;cases e;refine⟨h2.1,h2.2.1,fun f=>?_⟩;obtain⟨b,off,e,_,d⟩:=h2.2.2 f;exact⟨b,off,e,h.2 b (by rw[e];rfl),d⟩
def jN.len{S:Nat->Prop}{w a n c zs}(h:jN S w a n c zs):zs.length=n*3:=h.irp.1
structure jT where
 y:gM
 lo:Nat
 hi:Nat
def rL:pB jT:=fun S w x cs=>∃a n c,cs=gX x.y.s a n c/\jN (fun b=>S b/\x.lo<=b/\b<x.hi) w a n c x.y.zs/\n<=1000000/\x.y.s.glass.size<=9223372036854775807
def rL.r{S:Nat->Prop}{w x cs}(h:rL S w x cs):jE S w x.y cs:=by
 obtain⟨a,n,c,e,h1,h2,h3⟩:=h;exact⟨a,n,c,e,h1.irp.kept (gN.refl _ _) (fun b h=>h.1),h2,h1.none,h3⟩
def jX:kR 22 rL where
 len:=by rintro S w x cs ⟨a,n,c,rfl,_⟩;rfl
 kept:=by rintro S T w w' x cs ⟨a,n,c,e,h,r⟩ d f;exact⟨a,n,c,e,h.kept (d.mono (fun b h=>h.1)) (fun b h=>⟨f b h.1,h.2⟩),r⟩
 one:=by intro S w x cs h;exact iD.one h.r
def qt(l:List jT):List gM:=l.map jT.y
def CW{l}{i:Nat}{x}(h:(qt l)[i]? =some x):∃q,l[i]? =some q/\q.y=x:=by
 unfold qt at h;rw[aR]at h
 cases hq:l[i]? with
 |none=>rw[hq]at h;cases h
 |some q=>rw[hq]at h;exact⟨q,rfl,by simpa using h⟩
def Ek(l m):qt (l++m)=qt l++qt m:=aT
def mD(l):(qt l).length=l.length:=aU _
def El(l i x):qt (l.set i x)=(qt l).set i x.y:=by unfold qt;rw[List.map_set]
def jD.qr{T base w v l}(h:jD rL 22 T base w v l):jD jE 22 T base w v (qt l):=by
 obtain⟨css,h1,h2,h3,a⟩:=h;refine⟨css,by rw[mD];exact h1,h2,by rw[mD];exact h3,fun i x cs d b=>?_⟩;obtain⟨q,c,rfl⟩:=CW d;exact(a i q cs c b).r
def qu(l:List jT):Prop:=∀(i j:Nat)(x y:jT),l[i]? =some x->l[j]? =some y->i≠j->x.hi<=y.lo\/y.hi<=x.lo
def qu.nil:qu []:=fun i j x y h=>by simp at h
def qu.snoc{l}(h:qu l){x:jT}(d:∀y∈l,y.hi<=x.lo):qu (l++[x]):=by
 intro i j p q b a c;rw[List.getElem?_append]at b a;split at b
 .split at a
  .exact h i j p q b a c
  .rename_i h1 h2
   have e:q=x:=by
    have:j-l.length=0:=by
     refine eW fun h0=>?_
     rw[bz (by simp;omega)]at a;cases a
    rw[this]at a;simpa using a.symm
   subst e;exact Or.inl (d p (aL b))
 .rename_i h1
  have ep:i-l.length=0:=by
   refine eW fun h0=>?_
   rw[bz (by simp;omega)]at b;cases b
  have e:p=x:=by rw[ep]at b;simpa using b.symm
  subst e;split at a
  .exact Or.inr (d q (aL a))
  .have eq:j-l.length=0:=by
    refine eW fun h0=>?_
    rw[bz (by simp;omega)]at a;cases a
   omega
def qu.set{l}(h:qu l){k x}(e:∀j y,l[j]? =some y->j≠k->y.hi<=x.lo\/x.hi<=y.lo):qu (l.set k x):=by
 intro i j p q b a d;rw[cF]at b a
 by_cases hi:k=i
 .rw[aq hi]at b
  rw[aj (by omega)]at a;split at b
  .cases b
   exact(e j q a (by omega)).symm
  .cases b
 .rw[aj hi]at b
  by_cases c:k=j
  .rw[aq c]at a
   split at a
   .cases a
    exact e i p b (by omega)
   .cases a
  .rw[aj c]at a
   exact h i j p q b a d
def Em(B:Nat)(l:List jT):Prop:=∀x∈l,x.lo<=x.hi/\x.hi<=B
def Em.mono{B a l}(h:Em B l)(c:B<=a):Em a l:=fun x b=>⟨(h x b).1,af (h x b).2 c⟩
def Em.snoc{B l}(h:Em B l){x:jT}(h1:x.lo<=x.hi)(h2:x.hi<=B):Em B (l++[x]):=by
 intro y a
 obtain a|a:=bj.1 a
 .exact h y a
 .obtain rfl:=aK.1 a;exact⟨h1,h2⟩
def Sh{α:Type}(R:pB α)(o:Option Nat):pB α:=fun S w x cs=>R (fun b=>S b/\o≠some b) w x cs
def BT{α:Type}{k:Nat}{R:pB α}(ok:kR k R)(o:Option Nat):kR k (Sh R o) where
 len:=fun h=>ok.len h
 kept:=fun h a c=>ok.kept h (a.mono (fun b h=>h.1)) (fun b h=>⟨c b h.1,h.2⟩)
 one:=fun h=>ok.one h
def jD.rro{α R k}(ok:kR k R){T base w}{a:Option Addr}{n c:Nat}{l:List α}(h:jD R k T base w (.slice a n c) l):RR (Sh R (Value.slice a n c).ownBlock) k (fun b=>base<=b/\b<w.heap.size) w a n c l:=by
 have o:=h.rr ok;refine⟨o.1,o.2.1,fun u=>?_⟩;obtain⟨b,off,e,s,m⟩:=o.2.2 u;obtain⟨css,h1,h2,h3,r⟩:=id h
 obtain ⟨f,h0⟩|⟨g,cap,z,f,y,A,B,C,D,E⟩:=h3.2
 .cases f;cases e
 .cases f;cases e
  refine⟨_,0,rfl,⟨y,s⟩,fun i x q=>?_⟩;have hi:i<l.length:=(TG.1 q).1;have d:css[i]? =some css[i]:=ae (by omega);refine⟨css[i],ok.kept (r i x _ q d) (gN.refl _ _) (fun b h=>⟨⟨h.1,h.2.1⟩,h.2.2⟩),fun j v p=>?_⟩
  have t:j<k:=by
   have:=(TG.1 p).1;rw[h2 css[i] (cW _)]at this;exact this
  have m:=h3.cells rfl (i*k+j) v (by rw[mC css i _ j h2 d t];exact p);rw[Addr.add_mid,<- cN]at m;exact m
def oJ(base:Nat)(w:World)(v:Value)(l:List gM):Prop:=
 ∃a:List jT,qt a=l/\jD rL 22 70 base w v a/\qu a/\ ∀q∈a,base<=q.lo/\q.lo<=q.hi/\q.hi<=w.heap.size
def oJ.r{base w v l}(h:oJ base w v l):jD jE 22 70 base w v l:=by
 obtain⟨a,rfl,h,_⟩:=h;exact h.qr
def oJ.nil(base w):oJ base w (.slice none 0 0) []:=⟨[],rfl,jD.nil _ _ _ _ _,qu.nil,fun q a=>by cases a⟩
def oJ.go{base w w' v l}(h:oJ base w v l)(c:Below w w w'):oJ base w' v l:=by
 obtain⟨d,h1,h2,h3,a⟩:=h;exact⟨d,h1,h2.go jX c,h3,fun q b=>⟨(a q b).1,(a q b).2.1,af (a q b).2.2 c.size⟩⟩
def jD.down{α R k}(ok:kR k R){T base a w}{v:Value}{l:List α}(h:jD R k T base w v l)(c:a<=base):jD R k T a w v l:=by
 obtain⟨css,h1,h2,h3,d⟩:=h;exact⟨css,h1,h2,xL h3 c,fun i x cs f e=>ok.kept (d i x cs f e) (gN.refl _ _) (fun b h=>⟨af c h.1,h.2⟩)⟩
def oJ.down{base a w v l}(h:oJ base w v l)(c:a<=base):oJ a w v l:=by
 obtain⟨e,h1,h2,h3,b⟩:=h;exact⟨e,h1,h2.down jX c,h3,fun q d=>⟨af c (b q d).1,(b q d).2⟩⟩
def BR(S:Nat->Prop)(w:World)(a:Option Addr)(n c:Nat)(zs:List Int):Prop:=
 zs.length=n/\n<=c/\(∀j,j<n-> ∃b off,a=some ⟨b,off,none⟩/\S b/\w.cell? ⟨b,off+j,none⟩=some (.int .u8 (zs.getD j 0))/\0<=zs.getD j 0/\zs.getD j 0<=255)
def BR.kept{S T:Nat->Prop}{w w' a n c zs}(h:BR S w a n c zs)(f:gN S w w')(g:∀b,S b->T b):BR T w' a n c zs:=
 ⟨h.1,h.2.1,fun j d=>let⟨b,off,e,hb,hc,hr⟩:=h.2.2 j d;⟨b,off,e,g b hb,(f.cell (p:=⟨b,off+j,none⟩) hb).trans hc,hr⟩⟩
def BR.go{w w' a n c zs}(h:BR (fun b=>b<w.heap.size) w a n c zs)(d:Below w w w'):BR (fun b=>b<w'.heap.size) w' a n c zs:=
 h.kept (gE d) (fun b h=>ab h d.size)
structure tz where
 kind:Int
 c0:Int
 c1:Int
 k0:Int
 k1:Int
 h0:Int
 h1:Int
 h2:Int
 h3:Int
 p0:Int
 p1:Int
 order:Int
 thick:Int
 glass:Int
 semi:Int
 hole:Int
 b0:Int
 b1:Int
 b2:Int
 b3:Int
 b4:Int
 films:List Int
def tU(z:Int):Prop:= -128<=z/\z<=127
def qD(z:Int):Prop:= -32768<=z/\z<=32767
def og(z:Int):Prop:=0<=z/\z<=255
def Ci(z:Int):Prop:=0<=z/\z<=65535
structure tz.In (x:tz):Prop where
 kind:og x.kind
 c0:qD x.c0
 c1:qD x.c1
 k0:qD x.k0
 k1:qD x.k1
 h0:tU x.h0
 h1:tU x.h1
 h2:tU x.h2
 h3:tU x.h3
 p0:tU x.p0
 p1:tU x.p1
 order:tU x.order
 thick:qD x.thick
 glass:og x.glass
 semi:og x.semi
 hole:og x.hole
 b0:tU x.b0
 b1:tU x.b1
 b2:tU x.b2
 b3:tU x.b3
 b4:tU x.b4
def pg(x:tz)(a:Option Addr)(n c:Nat):List Value:=[.int .u8 x.kind,.int .i16 x.c0,.int .i16 x.c1,.int .i16 x.k0,.int .i16 x.k1,.int .i8 x.h0,.int .i8 x.h1,.int .i8 x.h2,.int .i8 x.h3,.int .i8 x.p0,.int .i8 x.p1,.int .i8 x.order,.int .i16 x.thick,.int .u8 x.glass,.int .u8 x.semi,.int .u8 x.hole,.int .i8 x.b0,.int .i8 x.b1,.int .i8 x.b2,.int .i8 x.b3,.int .i8 x.b4,.slice a n c]
abbrev Rf(x:tz)(a:Option Addr)(n c:Nat):Value:=.agg #[.int .u8 x.kind,.int .i16 x.c0,.int .i16 x.c1,.int .i16 x.k0,.int .i16 x.k1,.int .i8 x.h0,.int .i8 x.h1,.int .i8 x.h2,.int .i8 x.h3,.int .i8 x.p0,.int .i8 x.p1,.int .i8 x.order,.int .i16 x.thick,.int .u8 x.glass,.int .u8 x.semi,.int .u8 x.hole,.int .i8 x.b0,.int .i8 x.b1,.int .i8 x.b2,.int .i8 x.b3,.int .i8 x.b4,Z a n c]
def Rg:pB tz:=fun S w x cs=>∃a n c,cs=pg x a n c/\BR S w a n c x.films/\x.In
def Sy:kR 22 Rg where
 len:=by rintro S w x cs ⟨a,n,c,rfl,_⟩;rfl
 kept:=by rintro S T w w' x cs ⟨a,n,c,e,h,r⟩ d f;exact⟨a,n,c,e,h.kept d f,r⟩
 one:=by rintro S w x cs ⟨a,n,c,rfl,_⟩ v b;unfold pg at b;simp only[aS,bi,cR]at b;obtain rfl|rfl|rfl|rfl|rfl|rfl|rfl|rfl|rfl|rfl|rfl|rfl|rfl|rfl|rfl|rfl|rfl|rfl|rfl|rfl|rfl|rfl:=b<;>rfl
def Bj(w:World)(g:Nat)(x:tz)(a:Option Addr)(n c:Nat):Prop:=w.heap[g]? =some (.cells (pg x a n c).toArray 153 (0,0))
def Bj.go{w w' g x a n c}(h:Bj w g x a n c)(b:Below w w w'):Bj w' g x a n c:=(b.block g (TK h)).trans h
def uC{w:World}{T cs ys k b}(c:b=w.heap.size)(d:ys.length=1*k)(h:cs=(ys.map (Value.int .i64)).toArray):IRp (fun _=>True) (w.alloc (.cells cs T)) k (J b) 1 1 ys:=by
 subst h c;refine⟨d,aa _,fun _=>⟨_,0,rfl,trivial,fun j e=>?_⟩⟩
 have a:j<ys.length:=by omega
 have:=gA (TL w (.cells (ys.map (Value.int .i64)).toArray T)) j;rw[aV,this];simp[ah,a]
def kB{zs ys:List Int}{j}(h:j<zs.length):(zs++ys).getD j 0=zs.getD j 0:=by
 rw[ah,aF h,ah]
def mb{zs ys:List Int}{m j}(h:zs.length=m):(zs++ys).getD (m+j) 0=ys.getD j 0:=by
 rw[ah,aY (by omega),ah,show m+j-zs.length=j by omega]
def HU{zs i a p q}(b:zs.length=i*3)(h:(List.range i).all (mP zs)=true)(hf:oH a p q=true):(List.range (i+1)).all (mP (zs++[a,p,q]))=true:=by
 rw[an];intro j c;have c:=aJ.1 c
 by_cases e:j<i
 .have:=an.1 h j (aJ.2 e)
  unfold mP at*;rw[kB (by omega),kB (by omega),kB (by omega)];exact this
 .obtain rfl:j=i:=by omega
  unfold mP;have e0:=mb (ys:=[a,p,q]) (j:=0) b;rw[mb b,mb b,show(zs++[a,p,q]).getD (j*3) 0=[a,p,q].getD 0 0 from e0];exact hf
def HY(n:Int):List Int:=[13000000+50000*n,n.tmod 7,1+n.tmod 5]
def sI(fs:List Int)(i:Nat):List Int:=((List.range i).map fun j=>HY (fs.getD j 0)).flatten
def Dk(fs i):sI fs (i+1)=sI fs i++HY (fs.getD i 0):=by
 unfold sI;rw[bV,aT,cG];simp
def Nm(fs:List Int)(w:World)(e:Ending)(w':World):Prop:=
 ∃a n c zs,zs=sI fs (min 3 fs.length)/\e=.returned (.slice a n c)/\jN (fun b=>w.heap.size<=b/\b<w'.heap.size) w' a n c zs/\(a=none->c=0)/\n<=3/\(List.range n).all (mP zs)=true/\Below w w w'
def sJ{z:Int}(h:0<=z)(k)(a:0<k):∃m,z.tmod k=m/\0<=m/\m<k:=⟨_,rfl,by rw[bu h];exact dq _ (by omega),by rw[bu h];exact da _ a⟩
def KN(x a n c w)(hf:BR (fun b=>b<w.heap.size) w a n c x.films):
 Calls prog 105 #[Rf x a n c] w (Nm x.films w):=by
 have E:=hf.1;have Hf:=O hf;have A:=O E;clear hf E;have F:Bj (w.alloc (.cells (pg x a n c).toArray 153)) w x a n c:=TL w _;have C:=(TH w w).alloc (aa _) (.cells (pg x a n c).toArray 153);have B:=O F;have u:=O C;clear F C
 go_enter func105,ntmps105
 go_upto_region 1 with fail
 refine gI (fun wx=>Bj wx w x a n c/\Below w w wx) ⟨B,u⟩ ?_;clear B u;rintro w1 ⟨l,r⟩;have hl:=TK l;have s:=O l;have y:=O r;clear l r
 go_wp2_with fail
 go_loopw [3,4] (fun v R wr=>∃(i:Nat)(zs:List Int),i<=3/\i<=n/\zs=sI x.films i/\R=.int .i64 (i:Int)/\wr.ownsRow (w+1) 67 3 v i (zs.map (Value.int .i64))/\(List.range i).all (mP zs)=true/\Bj wr w x a n c/\Below w w wr) (fun _ R _=>3-(intOf R).toNat)
 case atStart=>exact⟨0,[],by omega,by omega,rfl,rfl,⟨rfl,Or.inl ⟨rfl,rfl⟩⟩,rfl,s,y⟩
 case round=>
  clear s y hl;obtain⟨i,zs,hi,a2,M,rfl,Q,hz,l,r⟩:=hrel;have q:=O M;clear M;have a4:wr.cell? ⟨w.heap.size,21,none⟩=some (.slice a n c):=(gA l 21).trans rfl;have hl:=TK l;have k:=Q.1;rw[aU]at k;have m:=O Q;have P:=O hz;have s:=O l;have p:=O r;have t:=O k;clear Q hz l r k
  by_cases a1:i<n
  .by_cases a9:i<3
   .obtain⟨b1,off,rfl,hlt,x0,L,b0⟩:=(Hf.kept (gE p) (fun b h=>h)).2.2 i a1
    have H:=Dk x.films i;generalize x.films.getD i 0=z at*;have W:=O H;clear H;obtain⟨T,e7,a7,a8⟩:=sJ L 7 (by omega);obtain⟨S,e5,a5,a6⟩:=sJ L 5 (by omega);have a3:b1<wr.heap.size:=ab hlt p.size
    have D:w.heap.size+1<=wr.heap.size:=by omega
    go_wp2_with(refine je underlying68 Tryz.infoFilm3 rfl (by omega) (by omega) rfl (.tmp 23) (.tmp 33) rfl (w+1) _ i zs rfl (m.alloc _) (fun _=>True) _ 1 1 [13000000+50000*z,T,1+S] rfl (uC rfl rfl rfl) (fun e=>by cases e) (by omega) (by simp;omega) ?_;intro v' w4 j d;have o:=O j;have f:=O d;clear j d)
    have d:=f.out;have e1:=(jI (base:=w.heap.size+1) m d (b:=w.heap.size) (by omega) D).trans s;have e3:=jF p m d (by omega) D
    have N:zs++[13000000+50000*z,T,1+S]=sI x.films (i+1):=by rw[W,q];unfold HY;rw[e7,e5]
    have a0:=O N;clear N
    have K:oH (13000000+50000*z) T (1+S)=true:=by simp[oH,jr];omega
    have E1:=O e1;have E3:=O e3;have X:=O K;clear e1 e3 K d f
    go_roundw
    case rel=>exact⟨i+1,_,by omega,by omega,a0,by go_num,o,HU t P X,E1,E3⟩
    case measure=>simp[intOf];omega
   .go_wp2
    go_ret;obtain⟨a',c',rfl,h1,h2⟩:=lc m;exact⟨a',i,c',zs,by rw[q,A];congr 1;omega,rfl,jN.own m (fun g h1 h2=>⟨by omega,h2⟩),h1,by omega,P,p⟩
  .go_wp2
   go_ret;obtain⟨a',c',rfl,h1,h2⟩:=lc m;exact⟨a',i,c',zs,by rw[q,A];congr 1;omega,rfl,jN.own m (fun g h1 h2=>⟨by omega,h2⟩),h1,by omega,P,p⟩

abbrev bs(l:List UInt8):ByteArray:=⟨l.toArray⟩
def Db(l):(bs l).data.toList=l:=rfl
def Pw(l):(bs l).size=l.length:=rfl
def oQ(a b):bs a++bs b=bs (a++b):=by
 apply fj;simp
def tY(c):∀(A:List UInt8),(∀b∈A,b≠c)->index A [c]= -1
 |[],_=>rfl
 |b::A,h=>by
  have i:=tY c A (fun d f=>h d (au _ f));have a:=h b aG
  have g:([c]:List UInt8).isPrefixOf (b::A)=false:=by
   show((c:UInt8)==b&&_)=false
   rw[cL];exact Or.inl (ak.2 (fun e=>a e.symm))
  rw[index,g,i];rfl
def xn(c):∀(A f:List UInt8),(∀b∈A,b≠c)->index (A++c::f) [c]=A.length
 |[],f,_=>by
  have a:([c]:List UInt8).isPrefixOf (c::f)=true:=by
   show((c:UInt8)==c&&_)=true
   simp
  rw[bD,index,a];rfl
 |b::A,f,h=>by
  have k:=xn c A f (fun d i=>h d (au _ i));have g:=h b aG
  have a:([c]:List UInt8).isPrefixOf (b::(A++c::f))=false:=by
   show((c:UInt8)==b&&_)=false
   rw[cL];exact Or.inl (ak.2 (fun e=>g e.symm))
  have j:((A.length:Int)== -1)=false:=by rw[ak];omega
  rw[bF,index,a,k,j,aH];simp
def Il(c):∀(l:List UInt8),(∀b∈l,b≠c)\/ ∃A f,(∀b∈A,b≠c)/\l=A++c::f
 |[]=>Or.inl (by simp)
 |b::l=>by
  by_cases a:b=c
  .exact Or.inr ⟨[],l,by simp,by rw[a];rfl⟩
  .obtain h|⟨A,f,h,e⟩:=Il c l
   .exact Or.inl (by simp only[aS,fE];exact⟨a,h⟩)
   .exact Or.inr ⟨b::A,f,by simp only[aS,fE];exact⟨a,h⟩,by rw[e];rfl⟩
def sM:∀(l w:List UInt8),(∀b∈l,b≠10)->io w l=[w++l]
 |[],w,_=>by simp[io]
 |b::l,w,h=>by
  have a:(b==10)=false:=ak.2 (h b aG);rw[io,a,aj (by simp),sM l _ (fun d c=>h d (au _ c))];simp
def vx:∀(A w f:List UInt8),(∀b∈A,b≠10)->io w (A++10::f)=(w++A)::io [] f
 |[],w,f,_=>by simp[io]
 |b::A,w,f,h=>by
  have a:(b==10)=false:=ak.2 (h b aG);rw[bF,io,a,aj (by simp),vx A _ f (fun d c=>h d (au _ c))];simp
def Fl(c){A f}(h:∀b∈A,b≠c):count (A++c::f) [c]=1+count f [c]:=by
 rw[count_hit (i:=A.length) (by simp) (xn c A f h)]
 congr 2
 rw[show A.length+([c]:List UInt8).length=A.length+1 from rfl,<- eE,List.drop_left];rfl
def xW:∀(n:Nat)(l:List UInt8),l.length<=n->splitK [10] 0 (count l [10]) l=io [] l
 |n,l,hn=>by
  obtain h|⟨A,f,h,rfl⟩:=Il 10 l
  .rw[count_miss (tY 10 l h),sM l _ h];rfl
  .match n,hn with
   |0,hn=>simp at hn
   |n+1,hn=>
    have a:((A.length:Int)== -1)=false:=by rw[ak];omega
    rw[Fl 10 h,fA,splitK,xn 10 A f h,a,aj (by simp),vx A _ f h,aI,bE,List.take_left];rw[show A.length+([10]:List UInt8).length=A.length+1 from rfl,<- eE,List.drop_left];rw[show List.drop 1 (10::f)=f from rfl,xW n f (by simp at hn;omega)];rfl
def Dr(l):(splitB (bs [10]) 0 (countB (bs l) (bs [10])) (bs l))=(io [] l).map bs:=by
 have h:=splitB_data (bs [10]) 0 (countB (bs l) (bs [10])) (bs l);rw[show countB (bs l) (bs [10])=count l [10]from rfl]at h⊢;rw[show(bs [10]).data.toList=[10]from rfl,show(bs l).data.toList=l from rfl,xW l.length l (aa _)]at h;rw[<- h,dD];exact(fY (fun x=>rfl) _).symm
def xX:∀(n:Nat)(l:List UInt8),l.length<=n->(io [] l).length=count l [10]+1
 |n,l,hn=>by
  obtain h|⟨A,f,h,rfl⟩:=Il 10 l
  .rw[count_miss (tY 10 l h),sM l _ h];rfl
  .match n,hn with
   |0,hn=>simp at hn
   |n+1,hn=>rw[Fl 10 h,vx A _ f h,aH,xX n f (by simp at hn;omega)];omega
def Nz(l a b):(bs l).extract a b=bs ((l.drop a).take (b-a)):=by
 apply fj
 apply fU
 simp[gu,List.take_drop]
def TO(l:List UInt8)(pos:Nat):Option Nat->List UInt8
 |none=>[]
 |some a=>(l.drop a).take (pos-a)
def Im(l:List UInt8)(p j):(l.drop p).getD j 0=l.getD (p+j) 0:=by simp[List.getD,cp]
def K8{l:List UInt8}{pos}(h:pos<l.length):l.drop pos=l.getD pos 0::l.drop (pos+1):=by
 rw[dG h,ah,ae h];rfl
def La(l:List UInt8)(a pos k)(h:a<=pos):(l.drop a).take (pos-a)++(l.drop pos).take k=(l.drop a).take (pos+k-a):=by
 have e:l.drop pos=(l.drop a).drop (pos-a):=by rw[eE];congr 1;omega
 rw[e,show pos+k-a=(pos-a)+k by omega,List.take_add]
def Pc(b:UInt8):Bool:=b==32
def iA:List UInt8->List UInt8->List (List UInt8)
 |v,[]=>if v=[]then[]else[v]
 |v,b::l=>if Pc b then(if v=[]then iA [] l else v::iA [] l)else iA (v++[b]) l
def Fm(r:Nat):Bool:=r==32
def Ds(b):Pc b=Fm b.toNat:=by
 unfold Pc Fm;rw[bJ];simp only[dz];exact⟨fun h=>by rw[h];rfl,fun h=>UInt8.toNat.inj h⟩
def JF(r):Fm r=true↔r=32:=by unfold Fm;simp
def Io(r):Fm r=false↔r≠32:=by unfold Fm;rw[ak]
def Ry(n b0 b1 b2 b3):Fm (decodeN n b0 b1 b2 b3).1=true->(decodeN n b0 b1 b2 b3).2=1/\b0=32:=by
 rw[JF];unfold decodeN
 repeat' split
 all_goals first
  |(intro h;exact⟨rfl,h⟩)
  |(intro h;simp only at h;omega)
def NA(n b0 b1 b2 b3):Fm (decodeN n b0 b1 b2 b3).1=false->b0≠32:=by
 rw[Io];unfold decodeN
 repeat' split
 all_goals(intro h;simp only at h;omega)
def Ip{b}(h:b.toNat/64=2):Pc b=false:=by
 rw[Ds,Io];omega
def SE{l pos}(h:Fm (Utf8.decode (bs l) pos).1=true):(Utf8.decode (bs l) pos).2=1/\Pc (l.getD pos 0)=true:=by
 rw[decode_N]at h⊢;obtain⟨h1,h2⟩:=Ry _ _ _ _ _ h;refine⟨h1,?_⟩;rw[Ds,JF];exact h2
def PO{l pos}(b:pos<l.length)(h:Fm (Utf8.decode (bs l) pos).1=false):pos+(Utf8.decode (bs l) pos).2<=l.length/\1<=(Utf8.decode (bs l) pos).2/\ ∀j,j<(Utf8.decode (bs l) pos).2->Pc (l.getD (pos+j) 0)=false:=by
 rw[decode_N]at h⊢;rw[show(bs l).data.toList=l from rfl]at h⊢;have h1:=NA _ _ _ _ _ h;have h2:=decodeN_le_n' (l.length-pos) (l.getD pos 0).toNat (l.getD (pos+1) 0).toNat (l.getD (pos+2) 0).toNat (l.getD (pos+3) 0).toNat (by omega);obtain⟨c1,c2,c3,c4⟩:=decodeN_conts (l.length-pos) (l.getD pos 0).toNat (l.getD (pos+1) 0).toNat (l.getD (pos+2) 0).toNat (l.getD (pos+3) 0).toNat;have h5:=decodeN_ge1 (l.length-pos) (l.getD pos 0).toNat (l.getD (pos+1) 0).toNat (l.getD (pos+2) 0).toNat (l.getD (pos+3) 0).toNat;refine⟨by omega,h5,fun j a=>?_⟩
 match j,a with
 |0,_=>rw[bE,Ds,Io];exact h1
 |1,a=>exact Ip (c1 (by omega)).1
 |2,a=>exact Ip (c2 (by omega)).1
 |3,a=>exact Ip (c3 (by omega)).1
 |j+4,a=>omega
def Lc{w l b}(h:Pc b=true):iA w (b::l)=(if w=[]then[]else[w])++iA [] l:=by
 rw[iA,h,aq rfl];split<;>simp
def xY:∀(k:Nat)(w l:List UInt8),k<=l.length->(∀j,j<k->Pc (l.getD j 0)=false)->iA w l=iA (w++l.take k) (l.drop k)
 |0,w,l,_,_=>by simp
 |k+1,w,[],h,_=>by simp at h
 |k+1,w,b::l,h,hs=>by
  have h0:=hs 0 (by omega);rw[fd]at h0;rw[iA,h0,aj (by simp),xY k (w++[b]) l (by simp at h;omega) (fun j a=>by have:=hs (j+1) (by omega);rwa[eA]at this)];simp
def Dt(l):∀(f pos:Nat)(c:Option Nat)(d:List (Nat×Nat)),l.length<=pos+f->pos<=l.length->(∀a,c=some a->a<pos)->
 (closeSpans (bs l) (spansFromP Fm (bs l) f pos c d)).map (fun x=>(bs l).extract x.1 x.2)=d.map (fun x=>(bs l).extract x.1 x.2)++(iA (TO l pos c) (l.drop pos)).map bs:=by
 have i:∀(pos:Nat)(c:Option Nat)(d:List (Nat×Nat)),pos=l.length->(∀a,c=some a->a<pos)->
  (closeSpans (bs l) (d,c)).map (fun x=>(bs l).extract x.1 x.2)=d.map (fun x=>(bs l).extract x.1 x.2)++(iA (TO l pos c) (l.drop pos)).map bs:=by
  intro pos c d o g;subst o;rw[List.drop_length]
  cases c with
  |none=>simp[closeSpans,TO,iA]
  |some a=>
   have h:=g a rfl
   have m:¬TO l l.length (some a)=[]:=by
    intro e;have:=ai List.length e;simp[TO]at this;omega
   simp only[closeSpans,iA];rw[aj m,aT,aN,bI,Nz];rfl
 intro f
 induction f with
 |zero=>
  intro pos c d s o g;exact i pos c d (by omega) g
 |succ f n=>
  intro pos c d s o g
  by_cases hlt:pos<l.length
  .have k:pos<(bs l).size:=hlt
   cases hs:Fm (Utf8.decode (bs l) pos).1
   .obtain⟨k1,p,t⟩:=PO hlt hs
    have hw:=xY (Utf8.decode (bs l) pos).2 (TO l pos c) (l.drop pos) (by rw[eQ];omega) (fun j r=>by rw[Im];exact t j r);rw[eE]at hw;rw[hw]
    cases c with
    |none=>
     rw[spansFromP,aq k,hs,aj (by simp)];rw[n _ _ _ (by omega) (by omega) (fun a h=>by cases h;omega)];simp only[TO,bD]
     congr 4
     omega
    |some a=>
     rw[spansFromP,aq k,hs,aj (by simp)];have h:=g a rfl;rw[n _ _ _ (by omega) (by omega) (fun b q=>by cases q;omega)];simp only[TO];rw[La l a pos _ (by omega)]
   .obtain⟨k1,p⟩:=SE hs
    rw[K8 hlt,Lc p]
    cases c with
    |none=>
     rw[spansFromP,aq k,hs,aq rfl];rw[k1,n _ _ _ (by omega) (by omega) (fun a h=>by cases h)];simp[TO]
    |some a=>
     rw[spansFromP,aq k,hs,aq rfl];have h:=g a rfl
     have m:¬TO l pos (some a)=[]:=by
      intro e;have:=ai List.length e;simp[TO]at this;omega
     rw[k1,n _ _ _ (by omega) (by omega) (fun a h=>by cases h)];rw[aj m,aT,aT,aN,bI,aC,Nz];rfl
  .rw[spansFromP_end _ _ _ _ _ _ (show¬pos<(bs l).size from hlt)]
   exact i pos c d (by omega) g
def Bm(l):goFieldsP Fm (bs l)=(iA [] l).map bs:=by
 have h:=Dt l l.length 0 none [] (by omega) (aA _) (fun a h=>by cases h);unfold goFieldsP spansOfP;rw[show(bs l).size=l.length from rfl,h];simp[TO]
def ro{z d k}(c:z.natAbs<10^(k+d))(a:1<=k):(iz z d).length<=k+d+2:=by
 unfold iz oR;have b:0<10^d:=cy (by omega)
 have h1:z.natAbs/10^d<10^k:=by rw[cK b,<- dm];exact c
 have h2:(decDigits (z.natAbs/10^d)).length<=k:=by
  rw[decDigits_length];exact mJ h1 a
 have h3:=pG d (z.natAbs%10^d);rw[al,al]
 have e:(if z<0 then[45]else([]:List UInt8)).length<=1:=by split<;>simp
 have h5:(if z.natAbs%10^d=0 then([]:List UInt8)else 46::jf d (z.natAbs%10^d)).length<=d+1:=by
  split
  .simp
  .simp;omega
 omega
def wh(s z a n c)(w:World)(h:LG w w s a n c z):
 Calls prog 173 #[.agg #[s,Z a n c]] w (tb w (-z)):=by
 have d:Below w w ((w.alloc (.cells #[s,Z a n c] 221)).alloc (.cells #[false,oN] 221)):=iH _ _;have g:=(h.2.1.below d (aa _)).mono d.size;have p:=h.1;have x:=h.2.2;have o:=h.2.1.len;have H:=O g;clear g;have i:=O d;clear d;have t:=O p;clear p;have r:=O o;clear o h
 go_enter func173,ntmps173
 go_wp2_with fail
 refine(nl (!s) (ip z.natAbs) (-z) _ _ _ _ H (iU _) (by omega) (by rw[iY,aI,<- r];exact x) ?_).mono ?_
 .have:=t.out
  rw[iY,this]
  by_cases h0:z<0
  .simp[h0];omega
  .simp[h0];omega
 rintro e C ⟨s',a',n',c',rfl,f,b,hf⟩;obtain⟨u,l⟩:=iN w (.cells #[s,Z a n c] 221) (.cells #[false,oN] 221);have m:=(b.block (w+1) (by simp)).trans l;obtain⟨k1,y,A,B⟩:=gQ m;have k:=O f;have q:=O hf;have j:=O b;clear f hf b u l m
 go_wp2_with fail
 refine ar (v:=.agg #[s',Z a' n' c']) ?_ rfl ?_
 .simp[results,results173,go_sem,k1,y]
 .exact pF k (i.trans (j.mono i.size)) q (w+1) (by simp) (by omega) _ _

def EI{u k}(h:(ip u).length<=k)(a:1<=k):(Lib.decDigits u).length<=9*k:=by
 rw[Lib.decDigits_length]
 obtain e|e:=Dd u
 .omega
 .subst e;rw[Lib.nDigits_small (by omega)];omega
def QT(n:Nat)(w:World)(q d:Value)(wr:World):Prop:=
 ∃(k:Nat)(a:Option Addr)(b:Nat)(zs:List Int),q=.int .i64 (-(k:Int))/\d=.slice a zs.length b/\(k:Int)<=9223372036854775808/\ip n=zs++ip k/\
  wr.ownsRow (w+1) 3 1 (.slice a zs.length b) zs.length (zs.map (Value.int .i64))/\
  wr.heap[w.heap.size]? =some (.cells #[false,oN] 221 (0,0))/\Below w w wr/\w.heap.size+1<=wr.heap.size
def KC(n:Nat)(w)(h0:0<n)(hn:(n:Int)<=9223372036854775808):
 Calls prog 130 #[.int .i64 (-(n:Int))] w (tb w (-(n:Int))):=by
 have l:=nu (-(n:Int)) (by omega) (by omega);rw[Int.natAbs_neg,aB]at l;have j:=O l;clear l
 have a8: -(n:Int) <0:=by omega
 go_enter func130,ntmps130
 go_wp2_with fail
 go_loopw [0,3] (fun q d wr=>QT n w q d wr) (fun q _ _=>(intOf q).natAbs)
 case atStart=>exact⟨n,none,0,[],rfl,rfl,hn,by simp,World.ownsRow_nil _ _ _ _,TL _ _,(TH _ _).alloc (aa _) _,by simp⟩
 case round=>
  obtain⟨k,va,vc,zs,rfl,rfl,b3,hd,u,E,t,x⟩:=hrel;have D:=O hd;have h:=O u;have y:=O E;clear hd u E
  by_cases H:k=0
  .subst H
   obtain⟨a4,a5,a6,a7⟩:=gQ y
   have r:ip n=zs:=by have:=D.out;simpa[jP]using this
   have S:=ur h;have a1:=O S;clear S
   go_wp2_with fail
   refine(nl true zs (-(n:Int)) _ _ _ _ a1 (by rw[<- r];exact iU n) (by rw[<- r];have:=j.out;omega) (by rw[<- r,iY,aI];have:=j.out;omega) (by rw[<- r];simp[iY])).mono ?_;rintro e w1 ⟨s,a,m,c,rfl,M,o,hf⟩;have a2:=(o.cell (p:=J (w.heap.size)) (by show w.heap.size<wr.heap.size;omega)).trans a4;have a3:=(o.cell (p:=⟨w.heap.size,1,none⟩) (by show w.heap.size<wr.heap.size;omega)).trans a5;have a9:=(o.frozen (p:=J (w.heap.size)) (by show w.heap.size<wr.heap.size;omega)).trans a6;have b0:=(o.frozen (p:=⟨w.heap.size,1,none⟩) (by show w.heap.size<wr.heap.size;omega)).trans a7;have a0:=O M;have Hf:=O hf;clear M hf r
   go_wp2_with fail
   refine ar (v:=.agg #[s,Z a m c]) ?_ rfl ?_
   .simp[results,results130,go_sem,a2,a3]
   .exact pF a0 (t.trans (o.mono t.size)) Hf w (by omega) (aa _) _ _
  .have L:0<k:=by omega
   have F:=D.out
   have b4:zs.length<=3:=by have:=j.out;rw[F,al]at this;omega
   have hx:ip k=[((k%1000000000:Nat):Int)]++ip (k/1000000000):=by rw[nU L];rfl
   have Hx:=O hx;clear hx;have ht:=xB (k:= -(k:Int)) (by omega);have hq:=xC (k:= -(k:Int)) (by omega);rw[show(- -(k:Int))%1000000000=((k%1000000000:Nat):Int)by omega]at ht;rw[show(- -(k:Int))/1000000000=((k/1000000000:Nat):Int)by omega]at hq
   have hb:((-(k:Int)) !=0)=true:=by simp;omega
   have hm:k/1000000000<k:=by omega
   have b6:k%1000000000<1000000000:=cx _ (by omega)
   have N:((k/1000000000:Nat):Int)<=9223372036854775808:=by omega
   have b5:((k/1000000000:Nat):Int)<=9223372037:=by omega
   have Hm:=O hm;clear hm F;generalize hR:k%1000000000=R at*;generalize hQ:k/1000000000=Q at*;have HR:=O hR;have HQ:=O hQ;clear hR hQ;generalize hK: -(k:Int)=K at*;have X:=O hK
   have b2:K<0:=by omega
   have b1: -9223372036854775808<=K:=by omega
   clear hK H L
   by_cases P:R=0
   .subst P
    go_wp2_with(refine ju rfl (.tmp 16) (.tmp 18) 162 rfl underlying162 (w+1) _ _ zs rfl (h.alloc _) _ _ 1 1 [_] rfl (SL.one wr _ _) (by simp) (by omega) (by simp;omega) ?_)
    intro v' w1 g f;obtain⟨B,C,rfl⟩:=kx g;have A:=(jI (base:=w.heap.size+1) h f (b:=w.heap.size) (by omega) x).trans y;have T:=jF t h f (by omega) x;have W:=f.size;have z:=O A;have i:=O g;clear A g f
    go_wp2_with fail
    go_roundw
    case rel=>
     refine⟨Q,B,C,zs++[0],rfl,by simp,N,(by rw[D,Hx,aC];try rfl),?_,z,T,?_⟩
     .simpa using i.out
     .simp at W⊢;omega
    case measure=>
     have:=Hm.out;have:=X.out;simp[intOf];omega
   .have b7:0<R:=by omega
    clear P
    go_wp2_with(refine ju rfl (.tmp 16) (.tmp 18) 162 rfl underlying162 (w+1) _ _ zs rfl (h.alloc _) _ _ 1 1 [_] rfl (SL.one wr _ _) (by simp) (by omega) (by simp;omega) ?_)
    intro v' w1 g f;obtain⟨B,C,rfl⟩:=kx g;have A:=(jI (base:=w.heap.size+1) h f (b:=w.heap.size) (by omega) x).trans y;have T:=jF t h f (by omega) x;have W:=f.size;have z:=O A;have i:=O g;clear A g f
    go_wp2_with fail
    go_roundw
    case rel=>
     refine⟨Q,B,C,zs++[(R:Int)],rfl,by simp,N,(by rw[D,Hx,aC];try rfl),?_,z,T,?_⟩
     .simpa using i.out
     .simp at W⊢;omega
    case measure=>
     have:=Hm.out;have:=X.out;simp[intOf];omega
def oT(z:Int)(w)(h1: -9223372036854775808<=z)(h2:z<=9223372036854775807):
 Calls prog 130 #[z] w (tb w z):=by
 by_cases h:z<0
 .have:=KC z.natAbs w (by omega) (by omega)
  rw[show(-(z.natAbs:Int))=z by omega]at this;exact this
 .have:=Ku z.natAbs w (by omega)
  rw[show((z.natAbs:Int))=z by omega]at this;exact this
structure QL (N:Nat) (w:World) (s:Bool) (a:Option Addr) (n c:Nat) (b:Option Addr) (m d:Nat) (r:Rat):Prop where
 n:LG N w s a n c r.num
 d:LG N w false b m d ((r.den:Nat):Int)
def QL.go{w w':World}{s a n c b m d r}(h:QL w w s a n c b m d r)(e:Below w w w'):QL w' w' s a n c b m d r:=⟨h.n.go e,h.d.go e⟩
def Sz(k:Nat)(r:Rat):Prop:=r.num.natAbs<1000000000^k/\r.den<1000000000^k
def Sz.den{k r}(h:Sz k r):(ip r.den).length<=k:=iB h.2
def QL.m{N w s a n c b m d r}(h:QL N w s a n c b m d r){k}(e:Sz k r):m<=k:=by
 have:=mW h.d;rw[aB]at this;have:=e.den;omega
def mF(r s a b n m c d)(w:World)(h:QL w w s a n c b m d r)(hm:m<=599):
 Calls prog 192 #[.agg #[s,Z a n c,false,Z b m d]] w (iZ w (.bool true)):=by
 have D:=(TH w w).alloc (aa _) (.cells #[s,Z a n c,false,Z b m d] 243);have k:pO (w.alloc (.cells #[s,Z a n c,false,Z b m d] 243)) w s a n c false b m d:=TL w _
 have a0:0<m:=by
  have:=mW h.d;rw[aB]at this
  obtain e|e:=cM m
  .rw[e]at this
   exact absurd (jC.1 this.symm) r.den_nz
  .exact e
 obtain⟨f,M⟩:∃f,Nat.gcd r.num.natAbs ((r.den:Nat):Int).natAbs=f:=⟨_,rfl⟩
 have C:(f:Int)=1:=by rw[<- M];exact ai Int.ofNat r.reduced
 have N:=O C;clear C;have H:=O h;have z:=O D;have j:=O k;have X:=O M;clear h D k M
 go_enter func192,ntmps192
 go_upto_region 1 with fail
 refine jp (fun W=>pO W w s a n c false b m d/\Below w w W) ⟨j,z⟩ ?_;clear j z;rintro w1 ⟨k,S⟩;obtain⟨c0,c1,c2,c3⟩:=gL k;have x:=O S;have j:=O k;clear S k
 go_wp2_with fail
 refine(rN s r.num a n c _ (by exact H.n.go x)).mono ?_;rintro e w2 ⟨rfl,p⟩;have u:=(p.block w (TK j)).trans j;obtain⟨d0,d1,d2,d3⟩:=gL u;have i:=O (x.trans (p.mono x.size));have o:=O u;clear p u c0 c1 c2 c3 j x
 go_wp2_with fail
 refine(rN false ((r.den:Nat):Int) b m d _ (by exact H.d.go i)).mono ?_;rintro e w3 ⟨rfl,q⟩;have v:=(q.block w (TK o)).trans o;obtain⟨e0,e1,e2,e3⟩:=gL v;have g:=O (i.trans (q.mono i.size));have R:=O v;clear q v d0 d1 d2 d3 o i
 go_wp2_with fail
 refine(vb s false r.num ((r.den:Nat):Int) a b n m c d _ (by exact H.n.go g) (by exact H.d.go g) hm f X).mono ?_;rintro e w4 ⟨s4,a4,n4,c4,rfl,K,E,_⟩;have B:=O K;have l:=O (g.trans (E.mono g.size));clear K E e0 e1 e2 e3 g R
 go_wp2_with fail
 refine(oT 1 _ (by omega) (by omega)).mono ?_;rintro e w5 ⟨s5,a5,n5,c5,rfl,L,t,_⟩;have Q:=O L;have y:=O (B.go t);have A:=O (l.trans (t.mono l.size));clear L t B l
 go_wp2_with fail
 refine(EB s4 s5 (f:Int) 1 a4 a5 n4 n5 c4 c5 _ (by exact y) (by exact Q)).mono ?_;rintro e w6 ⟨T,F⟩;rw[aP N.out]at T;subst T;have P:=O (A.trans (F.mono A.size));clear F
 go_wp2_with fail
 go_ret;exact⟨rfl,P⟩
def zF(s t:Bool)(a b n m c d w)(B:n<=600)(A:m<=600):
 Calls prog 233 #[.agg #[s,Z a n c,t,Z b m d]] w (iZ w (.tuple #[.agg #[s,Z a n c,t,Z b m d],oZ])):=by
 obtain⟨k,l⟩:=iN w (.cells #[s,Z a n c,t,Z b m d] 243) (.cells #[false,oN,false,oN] 243);have e:=iH (w:=w) (.cells #[s,Z a n c,t,Z b m d] 243) (.cells #[false,oN,false,oN] 243);have i:=O k;have j:=O l;have f:=O e;clear k l e
 go_enter func233,ntmps233
 go_upto_region 1 with fail
 refine jp (fun h=>pO h w s a n c t b m d/\pO h (w+1) false none 0 0 false none 0 0/\Below w w h) ⟨i,j,f⟩ ?_;clear i j f;rintro C ⟨h0,h1,e⟩;obtain⟨c0,c1,c2,c3⟩:=gL h0;obtain⟨r,u,x,y⟩:=gL h1;have f0:=gD h1 0;have f1:=gD h1 1;have z:=gD h1 2;have f3:=gD h1 3;have o:=O h1;have f:=O e;clear h0 h1 e
 go_wp2_with fail
 have g:=kl (s':=s) (a':=a) (n':=n) (c':=c) (t':=t) (b':=b) (m':=m) (d':=d) o;obtain⟨k0,k1,p,q⟩:=gL g;refine ar (v:=.tuple #[.agg #[s,Z a n c,t,Z b m d],oZ]) ?_ rfl ?_
 .simp[results,results233,go_sem,k0,k1,p,q]
 .exact⟨rfl,iR f (by omega)⟩
def M0{k l r s}(h1:Sz k r)(h2:Sz l s):(r.num*s.num).natAbs<1000000000^(k+l)/\r.den*s.den<1000000000^(k+l):=by
 rw[eG,dm];exact⟨cU h1.1 h2.1,cU h1.2 h2.2⟩
def GU(r s):mkRat (r.num*s.num) (r.den*s.den)=r*s:=by
 rw[Rat.mul_def,fX,eJ (Nat.mul_ne_zero r.den_nz s.den_nz)]
def KD(g i k1 S s t a b a' b' n m c d n' m' c' d')(w:World)(h1:QL w w s a n c b m d g)(h2:QL w w t a' n' c' b' m' d' i)(z1:Sz k1 g)(z2:Sz S i)(hk:k1+S<=599):
 Calls prog 234 #[.agg #[s,Z a n c,false,Z b m d],.agg #[t,Z a' n' c',false,Z b' m' d']] w (GO w (g*i)):=by
 obtain⟨zn,zd⟩:=M0 z1 z2;have ln:(ip (g.num*i.num).natAbs).length<=599:=af (iB zn) hk;have ld:(ip (g.den*i.den)).length<=599:=af (iB zd) hk;have b5:0<g.den*i.den:=dZ (bq g.den_nz) (bq i.den_nz);have a9:=GU g i;generalize g*i=R at*;obtain⟨i0,i1,i2⟩:=jh w (.cells #[s,Z a n c,false,Z b m d] 243) (.cells #[t,Z a' n' c',false,Z b' m' d'] 243) (.cells #[false,oN,false,oN] 243);have C:=oF w (.cells #[s,Z a n c,false,Z b m d] 243) (.cells #[t,Z a' n' c',false,Z b' m' d'] 243) (.cells #[false,oN,false,oN] 243);have I0:=O i0;have I1:=O i1;have I2:=O i2;have q:=O C;have a0:=O h1;have a1:=O h2;have b1:=O ln;have a7:=O ld;have b2:=O a9;clear i0 i1 i2 C h1 h2 zn zd ln ld a9
 go_enter func234,ntmps234
 go_upto_region 1 with fail
 refine jp (fun X=>pO X w s a n c false b m d/\pO X (w+1) t a' n' c' false b' m' d'/\pO X (w+2) false none 0 0 false none 0 0/\Below w w X) ⟨I0,I1,I2,q⟩ ?_;clear I0 I1 I2 q;rintro w1 ⟨h0,h1,h2,C⟩;have l0:=TK h0;have l1:=TK h1;have l2:=TK h2;obtain⟨c0,c1,c2,c3⟩:=gL h0;obtain⟨e0,e1,e2,e3⟩:=gL h1;have K:=O h2;have q:=O C;clear h0 h1 h2 C;refine gS 11 [(0,true),(1,true),(2,true),(3,true),(5,true),(6,true),(7,true),(8,true),(4,false),(9,false),(10,false)] (by kernel_rfl) (by kernel_rfl) ?_
 iterate 8
  refine gU (v:=?_) rfl (fun _ _ _ h=>h) (by rfl) ?_ ?_;rotate_left
  .intro y r
   have x0:=(r.cell (p:=J (w.heap.size)) l0).trans c0;have x1:=(r.cell (p:=⟨w.heap.size,1,none⟩) l0).trans c1;have x2:=(r.cell (p:=⟨w.heap.size,2,none⟩) l0).trans c2;have x3:=(r.cell (p:=⟨w.heap.size,3,none⟩) l0).trans c3;have y0:=(r.cell (p:=J (w+1)) l1).trans e0;have y1:=(r.cell (p:=⟨w.heap.size+1,1,none⟩) l1).trans e1;have y2:=(r.cell (p:=⟨w.heap.size+1,2,none⟩) l1).trans e2;have y3:=(r.cell (p:=⟨w.heap.size+1,3,none⟩) l1).trans e3;go_simp
   with_reducible rfl
  try simp only[V]
 clear c0 c1 c2 c3 e0 e1 e2 e3;refine gP rfl rfl (fun B j=>?_);go_simp;refine(qA s t g.num i.num a a' n n' c c' w1.drew (by exact a0.n.go (oP q)) (by exact a1.n.go (oP q)) (by have:=b1.out;omega)).mono ?_;rintro e w2 ⟨s2,a2,n2,c2,rfl,a8,D,f2⟩;refine j _ _ D ?_;clear j B;have u:Below w1 w1 w2:=gJ (k:=1) D;have a5:=O a8;have f:=O u;have F2:=O f2;clear a8 D u f2
 try simp only[V]
 refine gP rfl rfl (fun B j=>?_);go_simp;refine(qA false false ((g.den:Nat):Int) ((i.den:Nat):Int) b b' m m' d d' w2 (by exact(a0.d.go q).go f) (by exact(a1.d.go q).go f) (by rw[<- bW,aB];have:=a7.out;omega)).mono ?_;rintro e w3 ⟨s3,a3,n3,c3,rfl,z,x,f3⟩;refine j _ _ x ?_;clear j B;rw[<- bW]at z
 have b6:s3=false:=by rw[z.1];exact aw (Int.not_lt.2 (dP _))
 subst b6;have M:=O (a5.go x);have a6:=O z;have l:=O (f.trans (x.mono f.size));have Q:=f.size;have F3:=O (f3.mono Q);clear z x f3 a5 f
 try simp only[V]
 refine gP rfl rfl (fun B j=>?_);go_simp;refine(sD s2 (g.num*i.num) (g.den*i.den) a2 a3 n2 n3 c2 c3 w3 (by exact M) (by exact a6) b5 (by have:=mW a6;rw[aB]at this;have:=a7.out;omega)).mono ?_;rintro e w4 ⟨s4,N,W,c4,b4,T,d4,rfl,H,F,E,f4,g4⟩;refine j _ _ E ?_;clear j B;rw[b2]at H F;have o:=l.trans (E.mono l.size);have h2:=(o.block _ l2).trans K;have A:=l.size;have F4:=O (f4.mono A);have G4:=O (g4.mono A);have b3:=O H;have b0:=O F;have L:=O o;clear H F E o f4 g4 K;obtain⟨d0,d1,d2,d3⟩:=gL h2;have f0:=gD h2 0;have f1:=gD h2 1;have f2:=gD h2 2;have f3:=gD h2 3;have K:=O h2;clear h2
 try simp only[V]
 refine iu rfl ?_
 go_wp2_with fail
 have P:=kl (s':=s4) (a':=N) (n':=W) (c':=c4) (t':=false) (b':=b4) (m':=T) (d':=d4) K;obtain⟨k0,k1,S,k3⟩:=gL P;refine ar (v:=.agg #[s4,Z N W c4,false,Z b4 T d4]) ?_ rfl ?_
 .simp[results,results234,go_sem,k0,k1,S,k3]
 .have o4:mx w (w+3) N W:=mx.ofFresh (F4.mono (by omega))
  have o5:mx w (w+3) b4 T:=mx.ofFresh (G4.mono (by omega));exact⟨s4,N,W,c4,b4,T,d4,rfl,qY b3 o4 (show w.heap.size<=w.heap.size+2 by omega) (by omega),qY b0 o5 (show w.heap.size<=w.heap.size+2 by omega) (by omega),iR (q.trans (L.mono (by omega))) (by omega),F4.mono (by omega),G4.mono (by omega)⟩
def Py(xs ys zs:List Int)(i:Nat)(a:Int):Prop:=
 zs.length=i/\mv zs/\val zs=val (xs.take i)-val (ys.take i)+a*1000000000^i/\0<=a/\a<=1
def Py.less{xs ys zs i c}(h:Py xs ys zs i c)(d:mv xs)(e:mv ys)(g:xs.getD i 0-ys.getD i 0-c<0):
 Py xs ys (zs++[xs.getD i 0-ys.getD i 0-c+1000000000]) (i+1) 1:=by
 obtain⟨h1,h2,h3,f,h5⟩:=h;have a:=d.all i;have b:=e.all i;refine⟨by simp[h1],h2.append (mv.cons (by omega) mv.nil),?_,by omega,by omega⟩;rw[oD,h1,jn,jn,h3];simp only[val];generalize xs.getD i 0=x at*;generalize ys.getD i 0=y at*;rw[dF,fL];generalize(1000000000:Int)^i=p;rw[eh,eh,fM,fM,bN x p,bN y p,bN c p];omega
def Py.more{xs ys zs i c}(h:Py xs ys zs i c)(d:mv xs)(e:mv ys)(g:0<=xs.getD i 0-ys.getD i 0-c):
 Py xs ys (zs++[xs.getD i 0-ys.getD i 0-c]) (i+1) 0:=by
 obtain⟨h1,h2,h3,f,h5⟩:=h;have a:=d.all i;have b:=e.all i;refine⟨by simp[h1],h2.append (mv.cons (by omega) mv.nil),?_,by omega,by omega⟩;rw[oD,h1,jn,jn,h3];simp only[val];generalize xs.getD i 0=x at*;generalize ys.getD i 0=y at*;rw[Int.zero_mul];generalize(1000000000:Int)^i=p;rw[eh,fM,fM,bN x p,bN y p,bN c p];omega
def Py.last{xs ys zs a}(h:Py xs ys zs xs.length a)(d:ys.length<=xs.length)(e:val ys<=val xs):val zs=val xs-val ys:=by
 obtain⟨h1,h2,h3,f,h5⟩:=h;rw[bf,aM d]at h3;have c:=rZ h2;rw[h1]at c
 by_cases b:a=0
 .rw[b]at h3;omega
 .have:a=1:=by omega
  rw[this,fL]at h3;omega
end Go.Proofs.YtgohdcccfkjooaaGreatDoor
