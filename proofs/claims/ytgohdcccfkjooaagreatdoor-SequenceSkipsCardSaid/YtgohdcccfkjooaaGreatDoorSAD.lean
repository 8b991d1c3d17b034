import Derived.Test.YtgohdcccfkjooaaGreatDoorSAB
import Derived.Test.YtgohdcccfkjooaaGreatDoorSAC
import Derived.Lib.SpaceUEq
import Derived.Lib.SlBytesConst
import Derived.Lib.AppendIntMem
namespace Go.Proofs.YtgohdcccfkjooaaGreatDoor
set_option linter.all false
set_option maxRecDepth 100000
set_option maxHeartbeats 6400000
open Go.Proofs.Tryz Go.RowKit Go.Lib Go.Shelf
def gN(S:Nat->Prop)(w w':World):Prop:=∀b,S b->w'.heap[b]? =w.heap[b]?
def gN.refl(S:Nat->Prop)(w):gN S w w:=fun _ _=>rfl
def gN.trans{S:Nat->Prop}{w c d}(h1:gN S w c)(h2:gN S c d):gN S w d:=fun b a=>(h2 b a).trans (h1 b a)
def gN.cell{S:Nat->Prop}{w w'}(h:gN S w w'){p}(a:S p.block):w'.cell? p=w.cell? p:=by simp[World.cell?,h _ a]
def gN.mono{S T:Nat->Prop}{w w'}(h:gN S w w')(c:∀b,T b->S b):gN T w w':=fun b a=>h b (c b a)
def gE{B w w'}(h:Below B w w'):gN (fun b=>b<B) w w':=fun b a=>h.block b a
def nW{w w' row}(c:w.grownBy w' row):gN (fun b=>b<w.heap.size/\row≠some b) w w':=fun b a=>c.block b a.1 (fun e=>a.2 e.symm)
def gK(g):∀(a:List Value)(o:Nat)(w:World),gN (fun b=>b≠g) w (w.setCells g o a)
 |[],_,_=>gN.refl _ _
 |v::a,o,w=>fun b c=>(gK g a (o+1) (w.setCell ⟨g,o,none⟩ v) b c).trans (TI _ _ _ _ (fun e=>c e))
def IRp(S:Nat->Prop)(w:World)(k:Nat)(a:Option Addr)(n c:Nat)(zs:List Int):Prop:=
 zs.length=n*k/\n<=c/\(0<n-> ∃b off,a=some ⟨b,off,none⟩/\S b/\ ∀j,j<n*k->w.cell? ⟨b,off+j,none⟩=some (.int .i64 (zs.getD j 0)))
def IRp.kept{S T:Nat->Prop}{w w' k a n c zs}(h:IRp S w k a n c zs)(f:gN S w w')(i:∀b,S b->T b):IRp T w' k a n c zs:=
 ⟨h.1,h.2.1,fun g=>let⟨b,off,e,hb,hc⟩:=h.2.2 g;⟨b,off,e,i b hb,fun j d=>(f.cell (p:=⟨b,off+j,none⟩) hb).trans (hc j d)⟩⟩
def IRp.ir{S:Nat->Prop}{N w k a n c zs}(h:IRp S w k a n c zs)(f:∀b,S b->b<N):IR N w k a n c zs:=
 ⟨h.1,h.2.1,fun d=>let⟨b,off,e,hb,hc⟩:=h.2.2 d;⟨b,off,e,f b hb,hc⟩⟩
def IR.irp{S:Nat->Prop}{N w k a n c zs}(h:IR N w k a n c zs)(f:∀b,b<N->S b):IRp S w k a n c zs:=
 ⟨h.1,h.2.1,fun d=>let⟨b,off,e,hb,hc⟩:=h.2.2 d;⟨b,off,e,f b hb,hc⟩⟩
def IRp.nil(S:Nat->Prop)(w k a c):IRp S w k a 0 c []:=⟨by simp,aA _,fun h=>absurd h (by omega)⟩
abbrev pB(α:Type):=(Nat->Prop)->World->α->List Value->Prop
structure kR {α:Type} (k:Nat) (R:pB α):Prop where
 len:∀{S w x cs},R S w x cs->cs.length=k
 kept:∀{S T w w' x cs},R S w x cs->gN S w w'->(∀b,S b->T b)->R T w' x cs
 one:∀{S w x cs},R S w x cs-> ∀v∈cs,v.oneCell'=true
def RR{α:Type}(R:pB α)(k:Nat)(S:Nat->Prop)(w:World)(a:Option Addr)(n c:Nat)(l:List α):Prop:=
 l.length=n/\n<=c/\(0<n-> ∃b off,a=some ⟨b,off,none⟩/\S b/\ ∀i x,l[i]? =some x-> ∃cs,R S w x cs/\w.rangeAt b (off+i*k) cs)
def jb{S:Nat->Prop}{w w' b o cs}(h:w.rangeAt b o cs)(c:gN S w w')(a:S b):w'.rangeAt b o cs:=fun j v d=>(c.cell (p:=⟨b,o+j,none⟩) a).trans (h j v d)
def RR.kept{α R k}(ok:kR k R){S T:Nat->Prop}{w w' a n c}{l:List α}(h:RR R k S w a n c l)(d:gN S w w')(f:∀b,S b->T b):RR R k T w' a n c l:=
 ⟨h.1,h.2.1,fun g=>let⟨b,off,e,hb,hc⟩:=h.2.2 g;⟨b,off,e,f b hb,fun i x j=>let⟨cs,h1,h2⟩:=hc i x j;⟨cs,ok.kept h1 d f,jb h2 d hb⟩⟩⟩
def RR.go{α R k}(ok:kR k R){w w' a n c}{l:List α}(h:RR R k (fun b=>b<w.heap.size) w a n c l)(d:Below w w w'):RR R k (fun b=>b<w'.heap.size) w' a n c l:=
 h.kept ok (gE d) (fun b h=>ab h d.size)
def RR.nil{α}(R:pB α)(k)(S:Nat->Prop)(w a c):RR R k S w a 0 c []:=⟨rfl,aA _,fun h=>absurd h (by omega)⟩
def RR.at{α R k}{S:Nat->Prop}{w a n c}{l:List α}(h:RR R k S w a n c l){i:Nat}(hi:i<n):
 ∃b off x cs,a=some ⟨b,off,none⟩/\S b/\l[i]? =some x/\R S w x cs/\w.rangeAt b (off+i*k) cs:=by
 obtain⟨b,off,e,f,g⟩:=h.2.2 (by omega)
 have d:i<l.length:=by rw[h.1];exact hi
 obtain⟨cs,h1,h2⟩:=g i l[i] (ae d);exact⟨b,off,l[i],cs,e,f,ae d,h1,h2⟩
def RR.take{α R k}{S:Nat->Prop}{w a n c}{l:List α}(h:RR R k S w a n c l){i:Nat}(hi:i<=n):RR R k S w a i c (l.take i):=by
 refine⟨by rw[bn,h.1];omega,af hi h.2.1,fun h0=>?_⟩;obtain⟨b,off,e,f,g⟩:=h.2.2 (by omega);refine⟨b,off,e,f,fun j x d=>?_⟩;rw[cZ]at d;split at d
 .exact g j x d
 .cases d
def mC{k}:∀(css:List (List Value))(i:Nat)(cs:List Value)(j:Nat),(∀c∈css,c.length=k)->css[i]? =some cs->j<k->css.flatten[i*k+j]? =cs[j]?
 |[],i,cs,j,_,h,_=>by simp at h
 |c::css,0,cs,j,hl,h,hj=>by
  have e:c=cs:=by simpa using h
  subst e;have:=hl c (by simp);rw[ce,aF (by omega)];simp
 |c::css,i+1,cs,j,hl,h,hj=>by
  have a:=hl c (by simp);rw[ce,aY (by rw[a,df];omega),a];rw[show(i+1)*k+j-k=i*k+j by rw[df];omega];exact mC css i cs j (fun c a=>hl c (by simp[a])) (by simpa using h) hj
def lK{k}:∀(css:List (List Value)),(∀c∈css,c.length=k)->css.flatten.length=css.length*k
 |[],_=>by simp
 |c::css,hl=>by
  rw[ce,al,lK css (fun c a=>hl c (by simp[a])),hl c (by simp),aH,df];omega
def tG{k}:∀(css:List (List Value))(i:Nat)(cs:List Value),(∀c∈css,c.length=k)->i<css.length->cs.length=k->(css.set i cs).flatten=css.flatten.take (i*k)++cs++css.flatten.drop (i*k+k)
 |[],i,cs,_,h,_=>by simp at h
 |c::css,0,cs,hl,h,b=>by
  have:=hl c (by simp);simp[List.drop_append,this]
 |c::css,i+1,cs,hl,h,b=>by
  have a:=hl c (by simp);have f:=tG css i cs (fun c b=>hl c (by simp[b])) (by simpa using h) b;rw[aW,ce,f,ce];have d:c.take ((i+1)*k)=c:=aM (by rw[a,df];omega);have e:c.drop ((i+1)*k+k)=[]:=gp (by rw[a,df];omega);rw[fH,List.drop_append,d,e,a];rw[show(i+1)*k-k=i*k by rw[df];omega,show(i+1)*k+k-k=i*k+k by rw[df];omega];simp
def jD{α:Type}(R:pB α)(k:Nat)(T:TypeId)(base:Nat)(w:World)(v:Value)(l:List α):Prop:=
 ∃css:List (List Value),css.length=l.length/\(∀c∈css,c.length=k)/\w.ownsRow base T k v l.length css.flatten/\ ∀(i:Nat)(x:α)(cs:List Value),l[i]? =some x->css[i]? =some cs->R (fun b=>base<=b/\b<w.heap.size/\v.ownBlock≠some b) w x cs
def jD.nil{α}(R:pB α)(k T base w):jD R k T base w (.slice none 0 0) []:=
 ⟨[],rfl,by simp,World.ownsRow_nil _ _ _ _,fun i x cs h=>by simp at h⟩
def kD{w w':World}{base e size n v xs}(h:w.ownsRow base e size v n xs)(c:Below w w w'):w'.ownsRow base e size v n xs:=by
 obtain⟨l,r⟩:=h;refine⟨l,r.imp id ?_⟩;rintro⟨g,cap,a,e,d,b,f⟩;exact⟨g,cap,a,e,d,(c.block g (TK b)).trans b,f⟩
def jD.go{α R k}(ok:kR k R){T base w w'}{v:Value}{l:List α}(h:jD R k T base w v l)(a:Below w w w'):jD R k T base w' v l:=by
 obtain⟨css,h1,h2,h3,c⟩:=h;refine⟨css,h1,h2,kD h3 a,fun i x cs e d=>ok.kept (c i x cs e d) ?_ ?_⟩
 .exact(gE a).mono (fun b h=>h.2.1)
 .exact fun b h=>⟨h.1,ab h.2.1 a.size,h.2.2⟩
def jD.keep{α R k}(ok:kR k R){T base w w'}{v:Value}{l:List α}(h:jD R k T base w v l)(c:gN (fun b=>base<=b/\b<w.heap.size) w w')(n:w.heap.size<=w'.heap.size):jD R k T base w' v l:=by
 obtain⟨css,h1,h2,h3,j⟩:=h;refine⟨css,h1,h2,?_,fun i x cs o m=>ok.kept (j i x cs o m) (c.mono (fun b h=>⟨h.1,h.2.1⟩)) (fun b h=>⟨h.1,ab h.2.1 n,h.2.2⟩)⟩;obtain⟨l,r⟩:=h3;refine⟨l,r.imp id ?_⟩;rintro⟨g,cap,a,e,d,f,p⟩;exact⟨g,cap,a,e,d,(c g ⟨d,TK f⟩).trans f,p⟩
def jD.form{α R k T base w}{v:Value}{l:List α}(h:jD R k T base w v l):
 (v=.slice none 0 0/\l=[])\/ ∃g cap,v=.slice (J g) l.length cap/\base<=g/\g<w.heap.size/\l.length<=cap/\cap<=maxLen/\v.ownBlock=some g:=by
 obtain⟨css,h1,h2,h3,i⟩:=h
 obtain ⟨e,h0⟩|⟨g,cap,f,e,a,b,c,d,j,m⟩:=h3.2
 .exact VR ⟨e,aX.1 h0⟩
 .exact VS ⟨g,cap,e,a,TK b,c,d,by rw[e];rfl⟩
def jD.fresh{α R k T base w}{v:Value}{l:List α}(h:jD R k T base w v l){b:Nat}(c:w.heap.size<=b):v.ownBlock≠some b:=by
 intro e
 obtain ⟨rfl,_⟩|⟨g,cap,_,_,d,_,_,a⟩:=h.form
 .cases e
 .rw[a]at e;cases e;omega
def jD.rr{α R k}(ok:kR k R){T base w}{a:Option Addr}{n c:Nat}{l:List α}(h:jD R k T base w (.slice a n c) l):RR R k (fun b=>b<w.heap.size) w a n c l:=by
 obtain⟨css,h1,h2,h3,p⟩:=h
 obtain ⟨e,h0⟩|⟨g,cap,t,e,y,r,s,z,A,B⟩:=h3.2
 .cases e
  obtain rfl:=aX.1 h0;exact RR.nil _ _ _ _ _ _
 .cases e
  refine⟨rfl,s,fun u=>⟨g,0,rfl,TK r,fun i x o=>?_⟩⟩;have hi:i<l.length:=(TG.1 o).1;have d:css[i]? =some css[i]:=ae (by omega);refine⟨css[i],ok.kept (p i x _ o d) (gN.refl _ _) (fun b h=>h.2.1),fun j v m=>?_⟩
  have q:j<k:=by
   have:=(TG.1 m).1;rw[h2 css[i] (cW _)]at this;exact this
  have f:=h3.cells (g:=g) rfl (i*k+j) v (by rw[mC css i _ j h2 d q];exact m);rw[Addr.add_mid,<- cN]at f;exact f
def jD.at{α R k}(ok:kR k R){T base w}{g n c:Nat}{l:List α}(h:jD R k T base w (.slice (J g) n c) l){i:Nat}(hi:i<l.length):
 ∃cs,R (fun b=>b<w.heap.size) w l[i] cs/\w.rangeAt g (i*k) cs:=by
 have a:=h.rr ok;obtain⟨b,off,x,cs,e,f,d,h1,h2⟩:=a.at (i:=i) (by rw[<- a.1];exact hi);cases e;rw[ae hi]at d;cases d;exact⟨cs,h1,by simpa using h2⟩
def A0{w:World}{base e size n g c xs}(h:w.ownsRow base e size (.slice (J g) n c) n xs){o m}(l:o+m<=n*size):w.there g o m:=by
 obtain ⟨e,_⟩|⟨i,cap,a,e,p,b,d,q,f,r⟩:=h.2
 .cases e
 .cases e
  intro j k
  have:o+j<a.size:=by rw[f];have:=Ui size d;omega
  simp[World.cell?,World.frozen?,b,this]
def jD.there{α R k T base w}{g n c:Nat}{l:List α}(h:jD R k T base w (.slice (J g) n c) l){i:Nat}(hi:i<l.length):w.there g (i*k) k:=by
 obtain⟨css,h1,h2,h3,f⟩:=h
 have a:n=l.length:=by
  obtain ⟨e,_⟩|⟨d,cap,b,e,_⟩:=h3.2
  .cases e
  .cases e;rfl
 subst a;refine A0 h3 ?_;have:=Ui k (show i+1<=l.length from hi);rw[df]at this;omega
def tH{b T}{w:World}{a}(h:w.heap[b]? =some (.cells a T (0,0)))(o c)(d:o+c.length<=a.size):
 (w.setCells b o c).heap[b]? =some (.cells (a.toList.take o++c++a.toList.drop (o+c.length)).toArray T (0,0)):=by
 have e:a.toList=a.toList.take o++(a.toList.drop o).take c.length++a.toList.drop (o+c.length):=by
  rw[aC,<- eE,cA,cA]
 have:=ru (b:=b) (T:=T) c (a.toList.take o) ((a.toList.drop o).take c.length) (a.toList.drop (o+c.length)) w (by simp;omega) (by rw[<- e];simpa using h);rw[bn,cD (by simp;omega)]at this;exact this
def im(g):∀(a:List Value)(o:Nat)(w:World),(w.setCells g o a).heap.size=w.heap.size
 |[],_,_=>rfl
 |v::a,o,w=>by rw[World.setCells,im g a];simp
def jD.set{α R k}(ok:kR k R){T base w}{g n c:Nat}{l:List α}(h:jD R k T base w (.slice (J g) n c) l){i:Nat}(hi:i<l.length){x:α}{cs:List Value}(v:R (fun b=>base<=b/\b<w.heap.size/\b≠g) w x cs):jD R k T base (w.setCells g (i*k) cs) (.slice (J g) n c) (l.set i x):=by
 obtain⟨css,h1,h2,h3,A⟩:=h;have a:=ok.len v;have q:(Value.slice (J g) n c).ownBlock=some g:=rfl
 have t:∀{y:α}{ds:List Value},R (fun b=>base<=b/\b<w.heap.size/\b≠g) w y ds->R (fun b=>base<=b/\b<(w.setCells g (i*k) cs).heap.size/\(Value.slice (J g) n c).ownBlock≠some b) (w.setCells g (i*k) cs) y ds:=fun C=>
  ok.kept C ((gK g cs (i*k) w).mono (fun b h=>h.2.2)) (fun b h=>⟨h.1,by rw[im];exact h.2.1,by rw[q];intro e;cases e;exact h.2.2 rfl⟩)
 refine⟨css.set i cs,by simp[h1],?_,?_,?_⟩
 .intro d f
  obtain f|rfl:=bH f
  .exact h2 d f
  .exact a
 .rw[dL]
  obtain ⟨e,_⟩|⟨L,cap,p,e,D,E,z,F,H,K⟩:=h3.2
  .cases e
  .cases e
   have m:=Ui k (show i+1<=l.length from hi);rw[df]at m;have r:=Ui k z
   have u:(css.set i cs).flatten.length=l.length*k:=by
    rw[lK (k:=k) _ (fun d f=>by
     obtain f|rfl:=bH f
     .exact h2 d f
     .exact a),dL,h1]
   refine⟨u,VS ⟨g,c,_,rfl,D,tH E (i*k) cs (by rw[a,H];omega),z,F,?_,?_⟩⟩
   .simp[a];omega
   .have B:(p.toList.take (i*k)).length=i*k:=by rw[bn,cD (by simp;omega)]
    have s:(p.toList.take (i*k)++cs).length=i*k+k:=by rw[al,B,a]
    rw[tG css i cs h2 (by omega) a,<- K,fH,aM (by rw[s];exact m),s,List.take_take,cD (by omega),List.drop_take,a]
 .intro j y ds o f
  rw[cF]at o f;by_cases e:i=j
  .subst e
   rw[aq rfl,aq (by omega)]at o f;cases o;cases f;exact t v
  .rw[aj e]at o f
   exact t (ok.kept (A j y ds o f) (gN.refl _ _) (fun b h=>⟨h.1,h.2.1,fun e=>h.2.2 (by rw[q,e])⟩))
def jD.grown{α R k}(ok:kR k R){T base w w'}{v:Value}{l l'}{css ds:List (List Value)}(h:css.length=l.length/\(∀c∈css,c.length=k)/\ ∀(i:Nat)(x:α)(cs:List Value),l[i]? =some x->css[i]? =some cs->R (fun b=>base<=b/\b<w.heap.size/\v.ownBlock≠some b) w x cs)(m:ds.length=l'.length/\(∀c∈ds,c.length=k)/\ ∀(i:Nat)(x:α)(cs:List Value),l'[i]? =some x->ds[i]? =some cs->R (fun b=>base<=b/\b<w.heap.size/\v.ownBlock≠some b) w x cs){g cap}(f:w'.ownsRow base T k (.slice (J g) (l.length+l'.length) cap) (l.length+l'.length) (css.flatten++ds.flatten))(d:w.grownBy w' v.ownBlock)(hat:v.ownBlock=some g\/g=w.heap.size):
 jD R k T base w' (.slice (J g) (l.length+l'.length) cap) (l++l'):=by
 have n:∀{y:α}{cs:List Value},R (fun b=>base<=b/\b<w.heap.size/\v.ownBlock≠some b) w y cs->R (fun b=>base<=b/\b<w'.heap.size/\(Value.slice (J g) (l.length+l'.length) cap).ownBlock≠some b) w' y cs:=fun o=>
  ok.kept o ((nW d).mono (fun b h=>h.2)) (fun b h=>⟨h.1,ab h.2.1 d.size,fun e=>by
   have e:g=b:=by simpa[Value.ownBlock]using e
   subst e
   obtain e|e:=hat
   .exact h.2.2 e
   .have:=h.2.1;omega⟩)
 refine⟨css++ds,by simp[h.1,m.1],fun c a=>?_,by rw[cG,al];exact f,fun i x cs j a=>?_⟩
 .obtain a|a:=bj.1 a
  .exact h.2.1 c a
  .exact m.2.1 c a
 .by_cases hi:i<l.length
  .rw[aF hi]at j
   rw[aF (by omega)]at a;exact n (h.2.2 i x cs j a)
  .rw[aY (by omega)]at j
   rw[aY (by omega),h.1]at a;exact n (m.2.2 _ x cs j a)
def Uq{ops:Array Oper}{j:List Oper}{o:Oper}{a:Act}{Q:Exit->Act->World->Prop}{W:World}{α:Type}{R:pB α}{k:Nat}(ok:kR k R){T q:TypeId}{z:Value}{d:Nat}(D:prog.underlying q=some (.slice T))(hT:(prog.info? T).map (fun i=>(i.zero,i.size,i.bytes))=some (some z,k,d))(hz:z.cells.size=k)(C:0<k)(E:d<=10000)
 (H:o.guard=none)(s x:Operand)
 (ho:o.op=.call {callee:=.builtin .append,args:=#[s,x],argTypes:=#[q,q]})(base:Nat)(w:World)(v:Value)(l:List α)(y:α)(cs:List Value)
 (hs:a.eval s=v)(hrow:jD R k T base w v l)(hW:W=w.alloc (.cells cs.toArray T))(p:a.eval x=.slice (J (w.heap.size)) 1 1)(hy:R (fun b=>base<=b/\b<w.heap.size/\v.ownBlock≠some b) w y cs)(hlen:l.length<=1000000)(hbase:base<=w.heap.size)
 (h:∀g cap w',jD R k T base w' (.slice (J g) (l.length+1) cap) (l++[y])->(∀B w0,B<=base->Below B w0 w->Below B w0 w')->gN (fun b=>b<w.heap.size/\v.ownBlock≠some b) w w'->w.heap.size<=w'.heap.size->wpList prog ops Q j (a.put o.dst (.slice (J g) (l.length+1) cap)) w'):
 wpList prog ops Q (o::j) a W:=by
 subst hW;have f:Below w w (w.alloc (.cells cs.toArray T)):=(TH _ _).alloc (aa _) _;have m:=hrow.go ok f;obtain⟨css,h1,h2,h3,X⟩:=id m;obtain⟨i,L,M,N,P⟩:=sd hT;have F:=ok.len hy
 refine eT H fun K hK=>?_
 refine wp_append_lies _ s x q ho base T i z k d D L M N P hz C v l.length css.flatten hs h3
  (J (w.heap.size)) 1 1 cs p (by omega) (World.news_of_block (cs:=cs.toArray) (t:=T) (fr:=(0,0)) (TL w _)) (ok.one hy)
  (by omega) (by unfold maxLen;omega) (af (cB (show l.length+1<=1000001 by omega) E) (by omega)) (af hbase f.size) _ rfl ?_
 intro S r w' u c hat hlt;refine hK _ _ (h S r w' ?_ ?_ ?_ (af f.size c.size))
 .refine jD.grown (l':=[y]) (ds:=[cs]) ok ⟨h1,h2,X⟩ ⟨rfl,by simpa using F,fun i x ds p A=>?_⟩ (by simpa using u) c hat
  match i,p,A with
  |0,p,A=>
   cases p;cases A;exact ok.kept hy (gE f|>.mono (fun b h=>h.2.1)) (fun b h=>⟨h.1,ab h.2.1 f.size,h.2.2⟩)
 .intro B w0 hB n
  refine(n.alloc (by omega) _).grown c (by have:=f.size;omega) (fun k C=>?_);have:=h3.lt k C;omega
 .intro b n
  exact(c.block b (ab n.1 f.size) (fun e=>n.2 e.symm)).trans (f.block b n.1)
def qU{ops d o a}{Q:Exit->Act->World->Prop}{W α}{R:pB α}{k:Nat}(ok:kR k R){T e:TypeId}{z:Value}{c:Nat}(f:prog.underlying e=some (.slice T))(n:(prog.info? T).map (fun i=>(i.zero,i.size,i.bytes))=some (some z,k,c))(r:z.cells.size=k)(p:0<k)(j:c<=10000)(m:o.guard=none)(s x:Operand)(q:o.op=.call {callee:=.builtin .append,args:=#[s,x],argTypes:=#[e,e]})(base:Nat)(w:World)(v:Value)(l:List α)(y:α)(cs:List Value)(hs:a.eval s=v)(hrow:jD R k T base w v l)(hW:W=w.alloc (.cells cs.toArray T))(hx:a.eval x=.slice (J (w.heap.size)) 1 1)(hy:R (fun b=>base<=b/\b<w.heap.size/\v.ownBlock≠some b) w y cs)(hlen:l.length<=1000000)(hbase:base<=w.heap.size)(h:∀g cap w',jD R k T base w' (.slice (J g) (l.length+1) cap) (l++[y])->(∀B w0,B<=base->Below B w0 w->Below B w0 w')->wpList prog ops Q d (a.put o.dst (.slice (J g) (l.length+1) cap)) w'):
 wpList prog ops Q (o::d) a W:=
 Uq ok f n r p j m s x q base w v l y cs hs hrow hW hx hy hlen hbase (fun g cap w' h1 h2 _ _=>h g cap w' h1 h2)
section
variable{S:Nat->Prop}{P:Program}{ops:Array Oper}{Q:Exit->Act->World->Prop}{md:Region.Mode}
def LO(S:Nat->Prop)(P:Program)(md:Region.Mode)(ops:Array Oper)(Q:Exit->Act->World->Prop)(n:Nat):Nat->Array Bool->Act->World->Prop
 |0,listed,a,w=>Region.ready md ops listed=[]/\Q .normal a w
 |fuel+1,listed,a,w=>
  (Region.ready md ops listed=[]->Q .normal a w)/\
  ∀i∈Region.ready md ops listed,wpOp P ops Q i (fun a' w'=>(i<n->gN S w w')/\LO S P md ops Q n fuel (listed.setIfInBounds i true) a' w') a w
def yh{n:Nat}:∀(fuel:Nat)(b:Array Bool)(a:Act)(w:World),LO S P md ops Q n fuel b a w->wpAny P md ops Q fuel b a w
 |0,_,_,_,h=>h
 |fuel+1,_,_,_,h=>⟨h.1,fun i hi=>wpOp_mono (fun a' w' c=>yh fuel _ a' w' c.2) (h.2 i hi)⟩
def YieldsIf.stayK{o:Oper}{v:Value}{a:Act}{w w':World}(h:YieldsIf P ops (fun x=>gN S w x) o v a)(b:gN S w w'):
 YieldsIf P ops (fun x=>gN S w' x) o v a:=
 h.imp (fun⟨h1,h2⟩=>⟨h1,fun x c=>h2 x (b.trans c)⟩) id
def FN{n i:Nat}{q:Oper}{v:Value}(hi:ops[i]? =some q)(t:∀(j:Nat)(o:Oper) cs b,ops[j]? =some o->o.op≠ .select cs b)
 (hs:Region.sinkB md ops n=true)(T:Region.chainB md ops n=true)(hn:n<ops.size)(K:i<n)
 (N:∀c a w,Q (.panic c) (a.put q.dst v) w->Q (.panic c) a w):
 ∀(fuel:Nat)(d:Array Bool)(a:Act)(w:World),HeadInv md ops n d->
  (∀j r,ops[j]? =some r->j≠i->d.getD j true=false->(∀e∈r.after,Region.binds md e=true->e.on≠i)->q.apart ops r=true)->
  i∈Region.ready md ops d->YieldsIf P ops (fun x=>gN S w x) q v a->
  LO S P md ops Q n fuel (d.setIfInBounds i true) (a.put q.dst v) w->LO S P md ops Q n (fuel+1) d a w:=by
 intro fuel
 induction fuel with
 |zero=>
  intro d a w _ _ p B H;refine⟨fun h=>(by rw[h]at p;cases p),fun j u=>?_⟩;by_cases f:j=i
  .subst f;exact B.wpOp hi (gN.refl _ _) ⟨fun _=>gN.refl _ _,H⟩
  .have:=ready_mono u f
   rw[H.1]at this;cases this
 |succ fuel ih=>
  intro d a w E g p B H;have m:=(mem_ready.1 p).1;refine⟨fun h=>(by rw[h]at p;cases p),fun j u=>?_⟩
  have D:j<n:=by
   obtain h|h:=dC j n
   .exact h
   .exact absurd u (tail_waits hs T hn E _ i rfl K m j h)
  by_cases f:j=i
  .subst f;exact B.wpOp hi (gN.refl _ _) ⟨fun _=>gN.refl _ _,H⟩
  .have h1:=H.2 j (ready_mono u f)
   obtain⟨s,r,y,z⟩:=mem_ready.1 u
   have A:∀e∈r.after,Region.binds md e=true->e.on≠i:=fun e W R F=>by
    have h1:=z e W R;rw[F,getD_both m]at h1;cases h1
   have h2:=wpOp_putIf y (g j r y f s A) (fun cs b=>t i q cs b hi) (fun cs b=>t j r cs b y) N B h1
   have l:∀k ok,ops[k]? =some ok->k≠i->(d.setIfInBounds j true).getD k true=false->
    (∀e∈ok.after,Region.binds md e=true->e.on≠i)->q.apart ops ok=true:=fun k ok X L m M=>by
    refine g k ok X L ?_ M;by_cases C:j=k
    .subst C;exact s
    .rw[getD_set_ne true C]at m;exact m
   refine wpOp_mono (fun a' w' h3=>⟨h3.2.1,ih (d.setIfInBounds j true) a' w' (E.set u D) l (ready_mono p (fu f)) (YieldsIf.stayK h3.1 (h3.2.1 D)) ?_⟩) h2;rw[cC _ _ f];exact h3.2.2
def sU(S:Nat->Prop)(P:Program)(ops:Array Oper)(Q:Exit->Act->World->Prop)(n:Nat):List (Nat×Bool)->Act->World->Prop
 |[],a,w=>wpList P ops Q (ops.toList.drop n) a w
 |(i,true)::rest,a,w=>∃o v,ops[i]? =some o/\YieldsIf P ops (fun x=>gN S w x) o v a/\(∀c a w,Q (.panic c) (a.put o.dst v) w->Q (.panic c) a w)/\sU S P ops Q n rest (a.put o.dst v) w
 |(i,false)::rest,a,w=>wpOp P ops Q i (fun a' w'=>gN S w w'/\sU S P ops Q n rest a' w') a w
def yj{n:Nat}{Q':Exit->Act->World->Prop}:∀(l:List Oper)(k:Nat)(b:Array Bool)(a:Act)(w:World),n<=k->(∀j,l[j]? =ops[k+j]?)->
 Region.seqB md ops l.length k b=true->wpList P ops Q' l a w->LO S P md ops Q' n l.length b a w
 |[],_,_,_,_,_,_,hB,h=>⟨by simpa[Region.seqB]using hB,h⟩
 |o::l,k,b,a,w,hk,hl,hB,h=>by
  have h0:ops[k]? =some o:=by simpa using(hl 0).symm
  simp only[aH,Region.seqB,am,aD]at hB;refine⟨fun h1=>(by rw[hB.1]at h1;cases h1),fun i hi=>?_⟩;rw[hB.1]at hi
  have c:i=k:=by simpa using hi
  subst c
  have hw:wpOp P ops Q' i (wpList P ops Q' l) a w:=by unfold wpOp;simp only[h0];exact h
  exact wpOp_mono (fun a' w' d=>⟨fun hlt=>absurd hlt (by omega),yj l (i+1) _ a' w' (by omega) (fun j=>by have:=hl (j+1);simpa[cN,fA 1 j]using this) hB.2 d⟩) hw
def uf{n:Nat}(c:Region.noSelect ops=true)(k:Region.sinkB md ops n=true)(f:Region.chainB md ops n=true)(g:n<ops.size):
 ∀(ord:List (Nat×Bool))(b:Array Bool)(a:Act)(w:World),HeadInv md ops n b->vN md ops n ord b=true->sU S P ops Q n ord a w->
  LO S P md ops Q n (ord.length+(ops.size-n)) b a w
 |[],b,a,w,_,hB,h=>by
  have:=yj (S:=S) (md:=md) (n:=n) (Q':=Q) (ops.toList.drop n) n b a w (aa _) (fun j=>by simp[cp]) (by simpa[vN]using hB) h;simpa using this
 |(i,true)::rest,b,a,w,inv,hB,h=>by
  obtain⟨o,v,p,r,q,h⟩:=h;simp only[vN,bX,am,aD]at hB;obtain⟨⟨⟨h1,h2⟩,h3⟩,e⟩:=hB
  have d:i∈Region.ready md ops b:=by simpa using h1
  have:=FN p (Region.noSelect_spec c) k f g h3 q _ b a w inv (Region.free_spec p h2) d r (uf c k f g rest _ _ w (inv.set d h3) e h);rw[aH,show rest.length+1+(ops.size-n)=rest.length+(ops.size-n)+1 by omega];exact this
 |(i,false)::rest,b,a,w,inv,hB,h=>by
  simp only[vN,bC,de,am,aD]at hB;obtain⟨⟨h1,h3⟩,e⟩:=hB
  have d:i∈Region.ready md ops b:=by rw[h1];simp
  rw[aH,show rest.length+1+(ops.size-n)=rest.length+(ops.size-n)+1 by omega];refine⟨fun h0=>(by rw[h0]at h1;cases h1),fun j m=>?_⟩;rw[h1]at m
  obtain rfl:j=i:=by simpa using m
  exact wpOp_mono (fun a' w' l=>⟨fun _=>l.1,uf c k f g rest _ a' w' (inv.set d h3) e l.2⟩) h
def kC{id:Nat}{a:Act}{w:World}(n:Nat)(ord:List (Nat×Bool))(g:P.follows .mixedOrders=true)(e:wP .any ops n ord=true)
 (h:sU S P ops Q n ord a w.drew):(Code.region id ops true).wp P Q a w:=by
 simp only[wP,am,aD]at e;obtain⟨⟨⟨⟨⟨c,i⟩,b⟩,l⟩,f⟩,k⟩:=e
 have d:HeadInv .any ops n (Array.replicate ops.size false):=
  ⟨by simp,fun j o _ b=>(by rw[getD_replicate_false]at b;cases b),fun t _ m=>getD_in (by simpa using m) (getD_replicate_false _ _)⟩
 have:=uf (P:=P) (Q:=Q) c l f i ord _ a w.drew d k h;rw[b,show n+(ops.size-n)=ops.size by omega]at this;exact wp_region_any g (yh _ _ _ _ this)
def kQ{n i:Nat}{b:List (Nat×Bool)}{o:Oper}{v:Value}{a:Act}{w:World}(d:∀x,gN S w x->(execOp a.eval o).run P x=.ok (.value v) x)(h:sU S P ops Q n b (a.put o.dst v) w)(hi:ops.toList[i]? =some o:=by rfl)(hQ:∀c a w,Q (.panic c) (a.put o.dst v) w->Q (.panic c) a w:=by exact fun _ _ _ h=>h)(hw:Region.wanted o (yielded ops a.tmps)=true:=by rfl):sU S P ops Q n ((i,true)::b) a w:=
 ⟨o,v,by rw[<- bc];exact hi,VR ⟨hw,d⟩,hQ,h⟩
def iT{n i:Nat}{b:List (Nat×Bool)}{o:Oper}{a:Act}{w:World}(h:∀K:Act->World->Prop,(∀a' w',gN S w w'->sU S P ops Q n b a' w'->K a' w')->o.wp P a w K Q)(hi:ops.toList[i]? =some o:=by rfl)(hg:o.guard=none:=by rfl):sU S P ops Q n ((i,false)::b) a w:=by
 have hw:Region.wanted o (yielded ops a.tmps)=true:=by simp[Region.wanted,hg]
 rw[bc]at hi
 show wpOp P ops Q i _ a w
 unfold wpOp;simp only[hi,hw,bX];exact .inl (h _ fun a' w' h1 h2=>⟨h1,h2⟩)
def nK{n:Nat}{a:Act}{w:World}{l:List Oper}(b:ops.toList.drop n=l)(h:wpList P ops Q l a w):sU S P ops Q n [] a w:=by
 subst b;exact h
end
def IR.at3{N:Nat}{w:World}{a:Option Addr}{n c:Nat}{zs:List Int}(h:IR N w 3 a n c zs){k:Nat}(g:k<n):
 ∃b off,a=some ⟨b,off,none⟩/\b<N/\w.cell? ⟨b,off+k*3,none⟩=some (.int .i64 (zs.getD (k*3) 0))/\w.cell? ⟨b,off+k*3+1,none⟩=some (.int .i64 (zs.getD (k*3+1) 0))/\w.cell? ⟨b,off+k*3+2,none⟩=some (.int .i64 (zs.getD (k*3+2) 0)):=by
 obtain⟨b,off,e,f,d⟩:=h.2.2 (by omega);exact⟨b,off,e,f,d (k*3) (by omega),d (k*3+1) (by omega),d (k*3+2) (by omega)⟩
def Qw{zs:List Int}{n k:Nat}(c:zs.length=n*3)(b:k<n):zs.take ((k+1)*3)=zs.take (k*3)++[zs.getD (k*3) 0,zs.getD (k*3+1) 0,zs.getD (k*3+2) 0]:=by
 have e:∀j,j<zs.length->zs.take (j+1)=zs.take j++[zs.getD j 0]:=fun j a=>by
  rw[dV a];simp[ah,a]
 rw[show(k+1)*3=k*3+2+1 by omega,e _ (by omega),show k*3+2=k*3+1+1 by omega,e _ (by omega),e _ (by omega)];simp
def MJ(xs ys:List Int)(a b:Option Addr)(n m c d:Nat)(w:World)(p:IR w w 3 a n c xs)(q:IR w w 3 b m d ys)(M:n<=1000000)(L:m<=1000000):
 Calls prog 241 #[Z a n c,Z b m d] w (iZ w (.bool (decide (xs=ys)))):=by
 have B:=p.1;have C:=q.1;have F:=O p;have H:=O q;have j:=O B;have o:=O C;clear p q B C;by_cases l:n=m
 .subst l
  go_enter func241,ntmps241;go_wp2_with fail
  go_loopw [13] (fun r wr=>∃k:Nat,k<=n/\r=.int .i64 (k:Int)/\xs.take (k*3)=ys.take (k*3)/\Below w w wr) (fun r _=>n-(intOf r).toNat)
  case atStart=>exact⟨0,aA _,rfl,by simp,TH _ _⟩
  case round=>
   obtain⟨k,K,rfl,A,y⟩:=hrel;have t:=O A;have i:=O y;clear A y;by_cases g:k<n
   .obtain⟨b1,Q,rfl,l1,S,x1,x2⟩:=(F.go i).at3 g
    obtain⟨b2,R,rfl,P,T,y1,y2⟩:=(H.go i).at3 g;have D:=Qw j g;have ty:=Qw o g;generalize xs.getD (k*3) 0=p0 at*;generalize xs.getD (k*3+1) 0=p1 at*;generalize xs.getD (k*3+2) 0=p2 at*;generalize ys.getD (k*3) 0=q0 at*;generalize ys.getD (k*3+1) 0=q1 at*;generalize ys.getD (k*3+2) 0=q2 at*;have u:=O D;have v:=O ty;clear D ty
    have h:(p0=q0/\p1=q1/\p2=q2)\/ ¬(p0=q0/\p1=q1/\p2=q2)/\(((p0==q0)=false)\/(p0=q0/\(p1==q1)=false)\/(p0=q0/\p1=q1/\(p2==q2)=false)):=by
     simp only[ak];omega
    obtain ⟨rfl,rfl,rfl⟩|⟨f,hw⟩:=h
    .go_wp2_with fail
     go_quiet (fail)
     go_wp2_with fail
     go_roundw
     case rel=>exact⟨k+1,by omega,by go_num,by rw[u,v,t],gV i _⟩
     case measure=>simp[intOf];omega
    .have z:xs≠ys:=fun e=>f (by
      have h1:=u.out;have h2:=v.out;rw[e]at h1;have h3:=h1.symm.trans h2;have x:=List.append_cancel_left h3;simp at x
      exact x)
     have E:=O z;clear f z
     obtain h1|⟨rfl,h1⟩|⟨rfl,rfl,h1⟩:=hw
     all_goals
      go_wp2_with fail
      go_quiet (fail)
      go_wp2;go_ret;exact⟨by rw[aw E.out];rfl,gV i _⟩
   .obtain rfl:k=n:=by omega
    go_wp2;go_ret;refine⟨?_,i⟩;have:=t.out;rw[<- j,bf,j,<- o,bf]at this;simp[this]
 .have N:((n:Int) !=(m:Int))=true:=by simp;omega
  have f:xs≠ys:=fun e=>l (by have:=j.out;have:=o.out;subst e;omega)
  have s:=O f;clear f;go_enter func241,ntmps241;go_wp2;go_ret;exact⟨by rw[aw s.out];rfl,TH _ _⟩
def BI{a b:ByteArray}(h:a.toList=b.toList):a=b:=by
 rw[ByteArray.toList_eq,ByteArray.toList_eq]at h;exact fj (fU h)
def MK{s t:gW}(l:s.kind=t.kind)(m:s.curv=t.curv)(n:s.conic=t.conic)(o:s.t6=t.t6)(p:s.t7=t.t7)(q:s.order=t.order)(r:s.t8=t.t8)(u:s.r9=t.r9)(v:s.p8=t.p8)(a:s.dx=t.dx)(b:s.dy=t.dy)(c:s.ax=t.ax)(d:s.ay=t.ay)(e:s.az=t.az)
 (f:s.a0=t.a0)(g:s.a1=t.a1)(h:s.a2=t.a2)(d18:s.a3=t.a3)(i:s.p0=t.p0)(j:s.p1=t.p1)(k:s.i7.toList=t.i7.toList):s=t:=by
 have:=BI k;cases s;cases t;simp only[gW.mk.injEq];exact⟨l,m,n,o,p,f,g,h,d18,i,j,q,r,this,u,v,a,b,c,d,e⟩
def ni{g:Nat}{s:gW}{a:Option Addr}{n c:Nat}{b:Act}{o:Oper}{x:Operand}{w:World}(h:Y w g s a n c)(d:o.op=.load 70 x)(e:b.eval x=.pointer (J g)):
 (execOp b.eval o).run prog w=.ok (.value (.agg (⟨s,a,n,c⟩:jt))) w:=by
 unfold execOp;simp only[d,e,Instr.loadAt,Instr.sureAddr,bR,cT,bU,run_loadVar_mid w g 0 70 [s.kind,s.curv,s.conic,s.t6,s.t7,s.a0,s.a1,s.a2,s.a3,s.p0,s.p1,s.order,s.t8,s.i7,s.r9,s.p8,s.dx,s.dy,s.ax,s.ay,s.az,Z a n c] _ h.range underlying70 rfl Tryz.infoSurf]
def Ei(d:Nat){e:TypeId}{k':IntKind}(b:prog.underlying e=some (.int k'))(xs ys:List Int)(n:Nat)(f:xs.length=n)(g:ys.length=n)(w:World):∀a:List Nat,(∀j∈a,j<n)->
 (Op.eqItems (d+1) e 1 (xs.map (Value.int .i64)).toArray (ys.map (Value.int .i64)).toArray a).run prog w=.ok (a.all fun j=>xs.getD j 0==ys.getD j 0) w
 |[],_=>rfl
 |j::a,h=>by
  have m:j<n:=h j (aG ..);have k:=Ei d b xs ys n f g w a (fun i hi=>h i (au _ hi))
  have c:prog.plainKey e=true:=by simp[Program.plainKey,b]
  have p1:=run_part_plain (P:=prog) w c (xs:=(xs.map (Value.int .i64)).toArray) (off:=j*1) (v:=.int .i64 (xs.getD j 0)) (by simp[show j<xs.length by omega,ah]);have l:=run_part_plain (P:=prog) w c (xs:=(ys.map (Value.int .i64)).toArray) (off:=j*1) (v:=.int .i64 (ys.getD j 0)) (by simp[show j<ys.length by omega,ah]);simp only[Op.eqItems,bR,p1,l,bU,run_equalIn_int w d e .i64 k' _ _ b]
  cases hc:(xs.getD j 0==ys.getD j 0)with
  |true=>simp only[gf,bC,de,fh,hc,Bool.true_and];exact k
  |false=>simp only[fT,bX,cT,fh,hc,Bool.false_and]
def QK{xs ys:List Int}{n:Nat}(a:xs.length=n)(b:ys.length=n):((List.range n).all fun j=>xs.getD j 0==ys.getD j 0)=decide (xs=ys):=by
 rw[bJ,an,aD];constructor
 .intro h
  apply List.ext_getElem (by omega)
  intro i h1 h2;have:=h i (aJ.2 (by omega));simpa[ah,h1,h2]using this
 .rintro rfl j _
  simp
def sk(d:Nat){t e:TypeId}{n:Nat}{k':IntKind}(h:prog.underlying t=some (.array n e))(hi:(prog.info? e).isSome=true)(f:prog.underlying e=some (.int k'))(c:prog.cellsOf e=1)(xs ys:List Int)(a:xs.length=n)(b:ys.length=n)(w:World):
 (Op.equalIn (d+2) t (.agg (xs.map (Value.int .i64)).toArray) (.agg (ys.map (Value.int .i64)).toArray)).run prog w=.ok (decide (xs=ys)) w:=by
 obtain⟨i,hi⟩:=eL.1 hi;rw[run_equalIn_array w (d+1) _ _ h hi,c,Ei d f xs ys n a b w (List.range n) (fun j g=>aJ.1 g),QK a b]
def Sl(s t:gW)(w:World):(Op.equalIn 9999 315 (.agg #[s.kind,s.curv,s.conic,s.t6,s.t7,s.order,s.t8,s.r9,s.p8,s.dx,s.dy,s.ax,s.ay,s.az,oZ,oZ]) (.agg #[t.kind,t.curv,t.conic,t.t6,t.t7,t.order,t.t8,t.r9,t.p8,t.dx,t.dy,t.ax,t.ay,t.az,oZ,oZ])).run prog w=.ok (decide ([s.kind,s.curv,s.conic,s.t6,s.t7,s.order,s.t8,s.r9,s.p8,s.dx,s.dy,s.ax,s.ay,s.az,0,0]=[t.kind,t.curv,t.conic,t.t6,t.t7,t.order,t.t8,t.r9,t.p8,t.dx,t.dy,t.ax,t.ay,t.az,0,0])) w:=
 sk 9997 (n:=16) (k':=.i64) underlying315 (by kernel_rfl) underlying3 (by kernel_rfl) [s.kind,s.curv,s.conic,s.t6,s.t7,s.order,s.t8,s.r9,s.p8,s.dx,s.dy,s.ax,s.ay,s.az,0,0] [t.kind,t.curv,t.conic,t.t6,t.t7,t.order,t.t8,t.r9,t.p8,t.dx,t.dy,t.ax,t.ay,t.az,0,0] rfl rfl w
def Tz(s t:gW)(w:World):(Op.equalIn 9999 64 (.agg #[s.a0,s.a1,s.a2,s.a3]) (.agg #[t.a0,t.a1,t.a2,t.a3])).run prog w=.ok (decide ([s.a0,s.a1,s.a2,s.a3]=[t.a0,t.a1,t.a2,t.a3])) w:=
 sk 9997 (n:=4) (k':=.i64) underlying64 (by kernel_rfl) underlying3 (by kernel_rfl) [s.a0,s.a1,s.a2,s.a3] [t.a0,t.a1,t.a2,t.a3] rfl rfl w
def TA(s t:gW)(w:World):(Op.equalIn 9999 65 (.agg #[s.p0,s.p1]) (.agg #[t.p0,t.p1])).run prog w=.ok (decide ([s.p0,s.p1]=[t.p0,t.p1])) w:=
 sk 9997 (n:=2) (k':=.i64) underlying65 (by kernel_rfl) underlying3 (by kernel_rfl) [s.p0,s.p1] [t.p0,t.p1] rfl rfl w
def J7(s t:gW)(xs ys:List Int)(a b:Option Addr)(n m c d:Nat)(w:World)(hx:IR w w 3 a n c xs)(f:IR w w 3 b m d ys)(hn:n<=1000000)(hm:m<=1000000):
 Calls prog 201 #[.agg (⟨s,a,n,c⟩:jt),.agg (⟨t,b,m,d⟩:jt)] w (iZ w (.bool (decide (s=t)&&decide (xs=ys)))):=by
 obtain⟨e1,e2⟩:=iN w (.cells (⟨s,a,n,c⟩:jt) 70) (.cells (⟨t,b,m,d⟩:jt) 70);have A:=iH (w:=w) (.cells (⟨s,a,n,c⟩:jt) 70) (.cells (⟨t,b,m,d⟩:jt) 70);have Hx:=O hx;have Hy:=O f;have R:=O e1;have S:=O e2;have T:=O A;clear hx f e1 e2 A;go_enter func201,ntmps201;go_wp2_with fail;refine gI (fun Q=>Y Q w s a n c/\Y Q (w+1) t b m d/\Below w w Q) ⟨R,S,T⟩ ?_;clear R S T;rintro x ⟨h1,h2,A⟩;have B:=h1.lt;have C:=h2.lt;by_cases H:s=t
 .subst H
  refine ic 15 [] [] [(0,true),(1,true),(3,true),(4,true),(2,false),(5,false),(6,true),(7,true),(8,true),(9,true),(10,true),(11,true),(12,false),(13,true),(14,true)] (by kernel_rfl) (by kernel_rfl) ⟨by simp,by simp,fun _ h=>by cases h⟩ (fun _ _ _ _ _ h=>h) (fun _ _ o _ _ h=>by cases o<;>exact h) ?_;refine gZ (v:=?_) ?_ ?_;rotate_left
  .intro y f
   go_simp;rfl
  refine gZ (fun y f=>ni (Y.go h1 (gJ (k:=1) f) B) rfl rfl) ?_;refine gZ (v:=?_) ?_ ?_;rotate_left
  .intro y f
   go_simp;rfl
  refine gZ (fun y f=>ni (Y.go h2 (gJ (k:=1) f) C) rfl rfl) ?_;(try simp only[V]);refine iK (fun x1 r K i=>?_);go_simp;refine(uv s a n c _).mono ?_;rintro e w2 ⟨rfl,j⟩;refine i _ _ j ?_;clear i K;refine iK (fun x2 u K i=>?_);go_simp;refine(uv s b m d _).mono ?_;rintro e P ⟨rfl,l⟩;refine i _ _ l ?_;clear i K;(try simp only[V]);have q:Below x x x1:=gJ (k:=1) r;have g:Below x x P:=I (I (I q j) u) l;have E:=Y.go h1 g B;have g2:=Y.go h2 g C;refine gZ (v:=.bool true) ?_ ?_
  .intro y f
   have a9:=Sl s s y;have q4:=Tz s s y;have q2:=TA s s y;unfold uu;go_simp
  (try simp only[V]);refine iy (v:=?_) ?_ ?_;rotate_left
  .intro z
   go_simp;rfl
  try simp only[V]
  iterate 4
   refine gZ (v:=?_) ?_ ?_;rotate_left
   .intro y f
    obtain⟨y0,y1,y2,y3,y4,y5,y6,y7,y8,y9,b0,b1,b2,b3,b4,b5,b6,b7,b8,b9,c0,c1⟩:=Y.cells (Y.go E f E.lt);obtain⟨z0,z1,z2,z3,z4,z5,z6,z7,z8,z9,c2,c3,c4,c5,c6,c7,c8,c9,d0,e0,e3,e4⟩:=Y.cells (Y.go g2 f g2.lt);go_simp;rfl
   try simp only[V]
  refine kH rfl (by rfl) (fun x3 M K i=>?_);go_simp;have D:Below w w x3:=I A (g.trans (M.mono g.size));refine(MJ xs ys a b n m c d _ (Hx.go D) (Hy.go D) hn hm).mono ?_;rintro e w4 ⟨rfl,F⟩;refine i _ _ F ?_;clear i K;try simp only[V]
  iterate 2
   refine iy (v:=?_) ?_ ?_;rotate_left
   .intro z
    go_simp;rfl
   try simp only[V]
  refine jV rfl (fun w5 p=>?_);have N:=O (I (I D F) p);clear A j l F p r u M q g D E g2 h1 h2;go_wp2;go_ret;exact⟨by simp,N⟩
 .have L:=O H;clear H
  refine ic 15 [] [] [(0,true),(1,true),(3,true),(4,true),(2,false),(5,false),(6,true),(7,true),(8,true),(9,true),(10,true),(11,true),(12,true),(13,true),(14,true)] (by kernel_rfl) (by kernel_rfl) ⟨by simp,by simp,fun _ h=>by cases h⟩ (fun _ _ _ _ _ h=>h) (fun _ _ o _ _ h=>by cases o<;>exact h) ?_;refine gZ (v:=?_) ?_ ?_;rotate_left
  .intro y f
   go_simp;rfl
  refine gZ (fun y f=>ni (Y.go h1 (gJ (k:=1) f) B) rfl rfl) ?_;refine gZ (v:=?_) ?_ ?_;rotate_left
  .intro y f
   go_simp;rfl
  refine gZ (fun y f=>ni (Y.go h2 (gJ (k:=1) f) C) rfl rfl) ?_;(try simp only[V]);refine iK (fun x1 r K i=>?_);go_simp;refine(uv s a n c _).mono ?_;rintro e w2 ⟨rfl,j⟩;refine i _ _ j ?_;clear i K;refine iK (fun x2 u K i=>?_);go_simp;refine(uv t b m d _).mono ?_;rintro e P ⟨rfl,l⟩;refine i _ _ l ?_;clear i K;(try simp only[V]);have q:Below x x x1:=gJ (k:=1) r;have g:Below x x P:=I (I (I q j) u) l;have E:=Y.go h1 g B;have g2:=Y.go h2 g C;refine gZ (v:=.bool false) ?_ ?_
  .intro y f
   have a9:=Sl s t y;have q4:=Tz s t y;have q2:=TA s t y;unfold uu;go_simp;intro d1 d2 d3 d4 d5 d6 d7 d8 d9 W X a0 a1 a2 a3 a4 a5 d18 a6 a7 a8;exact L (MK d1 d2 d3 d4 d5 d6 d7 d8 d9 W X a0 a1 a2 a3 a4 a5 d18 a6 a7 a8)
  (try simp only[V]);refine iy (v:=?_) ?_ ?_;rotate_left
  .intro z
   go_simp;rfl
  try simp only[V]
  iterate 5
   refine nh rfl (by rfl) ?_;try simp only[V]
  iterate 2
   refine iy (v:=?_) ?_ ?_;rotate_left
   .intro z
    go_simp;rfl
   try simp only[V]
  refine jV rfl (fun w5 p=>?_);have N:=O (I A (g.trans (p.mono g.size)));clear A j l p r u q g E g2 h1 h2;go_wp2;go_ret;exact⟨by simp[L.out],N⟩
def rK(s:gW)(zs:List Int):Bool:=!jr 1 4 [s.kind]&& (decide (s=rJ s)&&decide (zs=if s.kind<=2 then zs else[]))
def Ej{k}(h:(!jr 1 4 [k])=true):1<=k/\k<=4:=by
 simp[jr]at h;omega
def BK(s zs a n c g w)(h:Y w g s a n c)(F:IR w w 3 a n c zs)(R:n<=1000000):
 Calls prog 199 #[U g] w (iZ w (.bool (rK s zs))):=by
 have P:=h.lt
 cases h1:(!jr 1 4 [s.kind])with
 |false=>
  have t:=O h1;clear h1 F;go_enter func199,ntmps199;go_wp2_with fail;refine ic 11 [] [] [(0,true),(1,true),(2,false),(3,false),(4,true),(5,true),(6,true),(7,true),(8,true),(9,true),(10,true)] (by kernel_rfl) (by kernel_rfl) ⟨by simp,by simp,fun _ h=>by cases h⟩ (fun _ _ _ _ _ h=>h) (fun _ _ o _ _ h=>by cases o<;>exact h) ?_
  iterate 2
   refine gZ (v:=?_) ?_ ?_;rotate_left
   .intro y E
    obtain⟨y0,y1,y2,y3,y4,y5,y6,y7,y8,y9,W,X,a0,a1,a2,a3,a4,a5,a6,a7,a8,a9⟩:=Y.cells (Y.go h (gJ (k:=1) E) P);go_simp;rfl
   try simp only[V]
  refine iK (fun x1 q K b=>?_);go_simp;refine b _ _ ((TH _ _).alloc (aa _) _) ?_;clear b K;(try simp only[V]);refine iK (fun x2 i K b=>?_);go_simp;have f:Below w w x1:=gJ (k:=1) q;have m:Below w w x2:=f.trans ((mA i).mono f.size);have l:SL x2 x2 (J (x1.heap.size)) 1 1 [s.kind]:=(SY rfl).go i;refine(pz 1 4 [s.kind] _ 1 1 _ l (by omega)).mono ?_;rintro e w2 ⟨A,d⟩;rw[t]at A;subst A;refine b _ _ d ?_;clear b K;(try simp only[V]);refine iy (v:=?_) ?_ ?_;rotate_left
  .intro z
   go_simp;rfl
  try simp only[V]
  iterate 4
   refine nh rfl (by rfl) ?_;try simp only[V]
  iterate 2
   refine iy (v:=?_) ?_ ?_;rotate_left
   .intro z
    go_simp;rfl
   try simp only[V]
  refine jV rfl (fun w5 H=>?_);have N:=O (I (I m d) H);clear d H q i f m l h;go_wp2;go_ret;exact⟨by unfold rK;rw[t];rfl,N⟩
 |true=>
  have t:=O h1;clear h1;go_enter func199,ntmps199;go_wp2_with fail;have Q:=Ej t;refine ic 11 [] [] [(0,true),(1,true),(2,false),(3,false),(4,true),(5,true),(6,true),(7,false),(8,false),(9,true),(10,true)] (by kernel_rfl) (by kernel_rfl) ⟨by simp,by simp,fun _ h=>by cases h⟩ (fun _ _ _ _ _ h=>h) (fun _ _ o _ _ h=>by cases o<;>exact h) ?_
  iterate 2
   refine gZ (v:=?_) ?_ ?_;rotate_left
   .intro y E
    obtain⟨y0,y1,y2,y3,y4,y5,y6,y7,y8,y9,W,X,a0,a1,a2,a3,a4,a5,a6,a7,a8,a9⟩:=Y.cells (Y.go h (gJ (k:=1) E) P);go_simp;rfl
   try simp only[V]
  refine iK (fun x1 q K b=>?_);go_simp;refine b _ _ ((TH _ _).alloc (aa _) _) ?_;clear b K;(try simp only[V]);refine iK (fun x2 i K b=>?_);go_simp;have f:Below w w x1:=gJ (k:=1) q;have m:Below w w x2:=f.trans ((mA i).mono f.size);have l:SL x2 x2 (J (x1.heap.size)) 1 1 [s.kind]:=(SY rfl).go i;refine(pz 1 4 [s.kind] _ 1 1 _ l (by omega)).mono ?_;rintro e w2 ⟨A,d⟩;rw[t]at A;subst A;refine b _ _ d ?_;clear b K;(try simp only[V]);refine iy (v:=?_) ?_ ?_;rotate_left
  .intro z
   go_simp;rfl
  (try simp only[V]);have p:=I m d
  iterate 2
   refine gZ (fun y E=>ni (Y.go h (p.trans (E.mono p.size)) P) rfl rfl) ?_
  (try simp only[V]);refine kH rfl (by rfl) (fun x3 D K b=>?_);go_simp;refine(MI s a n c _ Q.1 Q.2).mono ?_;rintro e w4 ⟨a',n',c',⟨rfl,u⟩,j⟩;refine b _ _ u ?_;clear b K;have C:=p.trans ((D.trans (u.mono D.size)).mono p.size);(try simp only[V]);refine kH rfl (by rfl) (fun T M K b=>?_);go_simp;have r:=C.trans (M.mono C.size)
  have B:IR T T 3 a' n' c' (if s.kind<=2 then zs else[])/\n'<=1000000:=by
   obtain ⟨S,rfl,rfl,rfl⟩|⟨S,rfl,rfl,rfl⟩:=j
   .rw[aq S];exact⟨F.go r,R⟩
   .rw[aj (by omega)];exact⟨IR.nil _ _ _ _ _,by omega⟩
  refine(J7 s (rJ s) zs _ a a' n n' c c' _ (F.go r) B.1 R B.2).mono ?_;rintro e w6 ⟨rfl,x⟩;refine b _ _ x ?_;clear b K;try simp only[V]
  iterate 2
   refine iy (v:=?_) ?_ ?_;rotate_left
   .intro z
    go_simp;rfl
   try simp only[V]
  refine jV rfl (fun w7 L=>?_);have N:=O (I (I r x) L);clear d u x L q i D M f m p C r l h F B j;go_wp2;go_ret;exact⟨by unfold rK;rw[t];simp,N⟩
def pC(s:gW)(zs:List Int)(n:Nat):Nat->Bool
 |0=>rK s zs
 |1=>uU s
 |2=>uV s
 |3=>uW s
 |4=>xI s
 |5=>rI s
 |6=>decide (n<=8)
 |_=>true
def uX(s:gW)(zs:List Int)(n:Nat):Bool:=(List.range 7).all (pC s zs n)
def mP(zs:List Int)(k:Nat):Bool:=oH (zs.getD (k*3) 0) (zs.getD (k*3+1) 0) (zs.getD (k*3+2) 0)
def oA(s:gW)(zs:List Int)(n:Nat):Bool:=uX s zs n&& (List.range n).all (mP zs)
def err(b:Bool)(e:Int):Value:=.int .i64 (if b then 0 else e)
def pD{f:Nat->Bool}{k}(h:∀j,j<k->f j=true)(a:f k=true):∀j,j<k+1->f j=true:=fun j b=>by
 by_cases e:j=k
 .subst e;exact a
 .exact h j (by omega)
def oI{s zs n k}(b:k<7)(h:pC s zs n k=false):uX s zs n=false:=by
 rw[dw];intro a;have:=an.1 a k (aJ.2 b);rw[h]at this;cases this
def GA{s zs n}(h:∀j,j<7->pC s zs n j=true):uX s zs n=true:=
 an.2 fun j a=>h j (aJ.1 a)
def kJ{P o a}{K:Act->World->Prop}{Q:Exit->Act->World->Prop}{v w}(h:K (a.put o.dst v) w):Oper.upon P o a K Q (.ok (.value v) w):=h
def BL(b x1 x2 c d e f w):((Sem.run prog (Instr.index 290 (Value.agg #[b,x1,x2,c,d,e,f]) (Value.int IntKind.i64 0)) w).andThen fun a w'=>Result.ok (Next.value a) w')=Result.ok (Next.value b) w:=by kernel_rfl
def BM(b x1 x2 c d e f w):((Sem.run prog (Instr.index 290 (Value.agg #[b,x1,x2,c,d,e,f]) (Value.int IntKind.i64 1)) w).andThen fun a w'=>Result.ok (Next.value a) w')=Result.ok (Next.value x1) w:=by kernel_rfl
def BN(b x1 x2 c d e f w):((Sem.run prog (Instr.index 290 (Value.agg #[b,x1,x2,c,d,e,f]) (Value.int IntKind.i64 2)) w).andThen fun a w'=>Result.ok (Next.value a) w')=Result.ok (Next.value x2) w:=by kernel_rfl
def BO(c x1 x2 b d e f w):((Sem.run prog (Instr.index 290 (Value.agg #[c,x1,x2,b,d,e,f]) (Value.int IntKind.i64 3)) w).andThen fun a w'=>Result.ok (Next.value a) w')=Result.ok (Next.value b) w:=by kernel_rfl
def BP(c x1 x2 d b e f w):((Sem.run prog (Instr.index 290 (Value.agg #[c,x1,x2,d,b,e,f]) (Value.int IntKind.i64 4)) w).andThen fun a w'=>Result.ok (Next.value a) w')=Result.ok (Next.value b) w:=by kernel_rfl
def BQ(c x1 x2 d e b f w):((Sem.run prog (Instr.index 290 (Value.agg #[c,x1,x2,d,e,b,f]) (Value.int IntKind.i64 5)) w).andThen fun a w'=>Result.ok (Next.value a) w')=Result.ok (Next.value b) w:=by kernel_rfl
def BS(c x1 x2 d e f b w):((Sem.run prog (Instr.index 290 (Value.agg #[c,x1,x2,d,e,f,b]) (Value.int IntKind.i64 6)) w).andThen fun a w'=>Result.ok (Next.value a) w')=Result.ok (Next.value b) w:=by kernel_rfl
def xK{w:World}{g l T}(h:w.heap[g]? =some (.cells l.toArray T (0,0))):w.rangeAt g 0 l:=by
 intro j v a;simp only[World.cell?,h,aV];simpa using a
def nC(s zs a n c)(w:World)(hz:IR w w 3 a n c zs)(hn:n<=1000000)(hg:s.i7.size<=9223372036854775807):
 Calls prog 164 #[.agg (⟨s,a,n,c⟩:jt)] w (iZ w (err (oA s zs n) 110)):=by
 have h1:=Y.new w s a n c;have H1:=O h1;have Hz:=O hz;clear h1 hz;go_enter func164,ntmps164;have h2:=TL (w.alloc (.cells (⟨s,a,n,c⟩:jt) 70)) (.cells #[.nilFunc,.nilFunc,.nilFunc,.nilFunc,.nilFunc,.nilFunc,.nilFunc] 290);rw[nB]at h2;have H2:=O h2;clear h2
 have a2:∀(a:Addr)(f:Fn)(x y:Array Value)(m:Mode)(w:World),(store a (.func f x y) m).run prog w=stored prog w a (.func f x y) m:=fun a f x y m w=>run_store prog w a _ m rfl
 go_wp2_with fail;go_step3;go_wp2_with fail;go_step3
 go_upto_block 0 with fail
 refine gI (fun F=>Y F w s a n c/\Below w w F) ⟨Y.go (B:=w.heap.size+1) H1 ((TH _ _).alloc (by simp) _) (by omega),gY (gY (TH _ _))⟩ ?_;clear H1 H2 a2;rintro E ⟨h1,A⟩;have S1:=O h1;have B1:=O A;have Z1:=O (Hz.go A);have hl:=h1.lt;clear h1 A
 go_cut [4,6]from 17 to 25 (fun r v6 F=>r=err (uX s zs n) 110/\Below E E F)
 case first=>
  go_wp2_with fail
  go_loopw [4,18] (fun r q wr=>∃k:Nat,k<=7/\q=.int .i64 (k:Int)/\r=.int .i64 0/\(∀j,j<k->pC s zs n j=true)/\Below E E wr) (fun _ q _=>7-(intOf q).toNat)
  case atStart=>exact⟨0,by omega,rfl,rfl,fun j hj=>by omega,TH _ _⟩
  case round=>
   obtain⟨k,hk,rfl,rfl,ht,l⟩:=hrel;have t:=O ht;have i:=O l;have p:=O (Y.go S1 l hl);have Zw:=O (Z1.go l);clear ht l
   have a1:k=0\/k=1\/k=2\/k=3\/k=4\/k=5\/k=6\/k=7:=by omega
   obtain rfl|rfl|rfl|rfl|rfl|rfl|rfl|rfl:=a1
   .cases b:pC s zs n 0 with
    |true=>
     have h:=O b;clear b;go_wp2_with fail;rw[BL];refine kJ ?_;simp only[V]
     go_wp2_with((with_reducible refine(BK s zs a n c w _ p.out Zw.out hn).mono ?_);rintro e o ⟨d,g⟩;rw[show rK s zs=_ from h]at d;subst d)
     go_roundw
     case rel=>exact⟨1,by omega,rfl,rfl,pD t h,I i g⟩
     case measure=>simp[intOf]
    |false=>
     have h:=O b;clear b;go_wp2_with fail;rw[BL];refine kJ ?_;simp only[V]
     go_wp2_with((with_reducible refine(BK s zs a n c w _ p.out Zw.out hn).mono ?_);rintro e o ⟨d,g⟩;rw[show rK s zs=_ from h]at d;subst d)
     go_meet;exact⟨by rw[oI (k:=0) (by omega) h];rfl,I i g⟩
   .cases b:pC s zs n 1 with
    |true=>
     have h:=O b;clear b;go_wp2_with fail;rw[BM];refine kJ ?_;simp only[V]
     go_wp2_with((with_reducible refine(BC s a n c w _ p.out).mono ?_);rintro e o ⟨d,g⟩;rw[show uU s=_ from h]at d;subst d)
     go_roundw
     case rel=>exact⟨2,by omega,rfl,rfl,pD t h,I i g⟩
     case measure=>simp[intOf]
    |false=>
     have h:=O b;clear b;go_wp2_with fail;rw[BM];refine kJ ?_;simp only[V]
     go_wp2_with((with_reducible refine(BC s a n c w _ p.out).mono ?_);rintro e o ⟨d,g⟩;rw[show uU s=_ from h]at d;subst d)
     go_meet;exact⟨by rw[oI (k:=1) (by omega) h];rfl,I i g⟩
   .cases b:pC s zs n 2 with
    |true=>
     have h:=O b;clear b;go_wp2_with fail;rw[BN];refine kJ ?_;simp only[V]
     go_wp2_with((with_reducible refine(BD s a n c w _ p.out).mono ?_);rintro e o ⟨d,g⟩;rw[show uV s=_ from h]at d;subst d)
     go_roundw
     case rel=>exact⟨3,by omega,rfl,rfl,pD t h,I i g⟩
     case measure=>simp[intOf]
    |false=>
     have h:=O b;clear b;go_wp2_with fail;rw[BN];refine kJ ?_;simp only[V]
     go_wp2_with((with_reducible refine(BD s a n c w _ p.out).mono ?_);rintro e o ⟨d,g⟩;rw[show uV s=_ from h]at d;subst d)
     go_meet;exact⟨by rw[oI (k:=2) (by omega) h];rfl,I i g⟩
   .cases b:pC s zs n 3 with
    |true=>
     have h:=O b;clear b;go_wp2_with fail;rw[BO];refine kJ ?_;simp only[V]
     go_wp2_with((with_reducible refine(BE s a n c w _ p.out).mono ?_);rintro e o ⟨d,g⟩;rw[show uW s=_ from h]at d;subst d)
     go_roundw
     case rel=>exact⟨4,by omega,rfl,rfl,pD t h,I i g⟩
     case measure=>simp[intOf]
    |false=>
     have h:=O b;clear b;go_wp2_with fail;rw[BO];refine kJ ?_;simp only[V]
     go_wp2_with((with_reducible refine(BE s a n c w _ p.out).mono ?_);rintro e o ⟨d,g⟩;rw[show uW s=_ from h]at d;subst d)
     go_meet;exact⟨by rw[oI (k:=3) (by omega) h];rfl,I i g⟩
   .cases b:pC s zs n 4 with
    |true=>
     have h:=O b;clear b;go_wp2_with fail;rw[BP];refine kJ ?_;simp only[V]
     go_wp2_with((with_reducible refine(UU s a n c w _ p.out).mono ?_);rintro e o ⟨d,g⟩;rw[show xI s=_ from h]at d;subst d)
     go_roundw
     case rel=>exact⟨5,by omega,rfl,rfl,pD t h,I i g⟩
     case measure=>simp[intOf]
    |false=>
     have h:=O b;clear b;go_wp2_with fail;rw[BP];refine kJ ?_;simp only[V]
     go_wp2_with((with_reducible refine(UU s a n c w _ p.out).mono ?_);rintro e o ⟨d,g⟩;rw[show xI s=_ from h]at d;subst d)
     go_meet;exact⟨by rw[oI (k:=4) (by omega) h];rfl,I i g⟩
   .cases b:pC s zs n 5 with
    |true=>
     have h:=O b;clear b;go_wp2_with fail;rw[BQ];refine kJ ?_;simp only[V]
     go_wp2_with((with_reducible refine(BH s a n c w _ p.out hg).mono ?_);rintro e o ⟨d,g⟩;rw[show rI s=_ from h]at d;subst d)
     go_roundw
     case rel=>exact⟨6,by omega,rfl,rfl,pD t h,I i g⟩
     case measure=>simp[intOf]
    |false=>
     have h:=O b;clear b;go_wp2_with fail;rw[BQ];refine kJ ?_;simp only[V]
     go_wp2_with((with_reducible refine(BH s a n c w _ p.out hg).mono ?_);rintro e o ⟨d,g⟩;rw[show rI s=_ from h]at d;subst d)
     go_meet;exact⟨by rw[oI (k:=5) (by omega) h];rfl,I i g⟩
   .cases b:pC s zs n 6 with
    |true=>
     have h:=O b;clear b;go_wp2_with fail;rw[BS];refine kJ ?_;simp only[V]
     go_wp2_with((with_reducible refine(BG s a n c w _ p.out).mono ?_);rintro e o ⟨d,g⟩;rw[show decide (n<=8)=_ from h]at d;subst d)
     go_roundw
     case rel=>exact⟨7,by omega,rfl,rfl,pD t h,I i g⟩
     case measure=>simp[intOf]
    |false=>
     have h:=O b;clear b;go_wp2_with fail;rw[BS];refine kJ ?_;simp only[V]
     go_wp2_with((with_reducible refine(BG s a n c w _ p.out).mono ?_);rintro e o ⟨d,g⟩;rw[show decide (n<=8)=_ from h]at d;subst d)
     go_meet;exact⟨by rw[oI (k:=6) (by omega) h];rfl,I i g⟩
   .go_wp2_with fail
    go_meet;exact⟨by rw[GA t];rfl,i⟩
 case rest=>
  obtain⟨rfl,l⟩:=hcut;have Sc:=O (Y.go S1 l hl);have Zc:=O (Z1.go l);have Bc:=O (I B1 l);have a4:w.heap.size<wc.heap.size:=ab hl l.size;have u:=Zc.1;have a3:=O u;clear l S1 B1 Z1 u;obtain⟨k0,k1,k2,k3,k4,k5,k6,k7,k8,k9,K,L,M,N,P,Q,R,S,T,W,X,a0⟩:=Sc.cells;generalize b:err (uX s zs n) 110=r at*
  cases hT:uX s zs n with
  |false=>
   have HT:=O hT
   obtain rfl:r=.int .i64 110:=by rw[<- b,hT];rfl
   clear b hT;go_wp2_with fail;clear k0 k1 k2 k3 k4 k5 k6 k7 k8 k9 K L M N P Q R S T W X a0
   go_loopw [4,28] (fun r q wr=>∃k:Nat,k<=n/\q=.int .i64 (k:Int)/\r=.int .i64 110/\Below wc wc wr) (fun _ q _=>n-(intOf q).toNat)
   case atStart=>exact⟨0,by omega,rfl,rfl,TH _ _⟩
   case round=>
    obtain⟨k,hk,rfl,rfl,l⟩:=hrel;have i:=O l;clear l;by_cases C:k<n
    .obtain⟨b1,o1,rfl,l1,x0,x1,x2⟩:=(Zc.go i).at3 C
     go_wp2_with fail
     go_roundw
     case rel=>exact⟨k+1,by omega,by go_num,rfl,by(repeat (first|exact i|apply gY|apply jA|(refine I ?_ (by assumption))))⟩
     case measure=>simp[intOf];omega
    .go_wp2
     go_ret;exact⟨by unfold oA;rw[HT];rfl,I Bc i⟩
  |true=>
   have HT:=O hT
   obtain rfl:r=.int .i64 0:=by rw[<- b,hT];rfl
   clear b hT;go_wp2_with fail;clear k0 k1 k2 k3 k4 k5 k6 k7 k8 k9 K L M N P Q R S T W X a0
   go_loopw [4,28] (fun r q wr=>∃k:Nat,k<=n/\q=.int .i64 (k:Int)/\r=err ((List.range k).all (mP zs)) 110/\Below wc wc wr) (fun _ q _=>n-(intOf q).toNat)
   case atStart=>exact⟨0,by omega,rfl,rfl,TH _ _⟩
   case round=>
    obtain⟨k,hk,rfl,b,l⟩:=hrel;have i:=O l;clear l;by_cases C:k<n
    .obtain⟨b1,o1,rfl,l1,x0,x1,x2⟩:=(Zc.go i).at3 C
     have H:(List.range (k+1)).all (mP zs)=((List.range k).all (mP zs)&&oH (zs.getD (k*3) 0) (zs.getD (k*3+1) 0) (zs.getD (k*3+2) 0)):=by
      rw[bV,er];simp[mP]
     have z:=O H;clear H;generalize zs.getD (k*3) 0=p0 at*;generalize zs.getD (k*3+1) 0=p1 at*;generalize zs.getD (k*3+2) 0=p2 at*
     cases hT:(List.range k).all (mP zs)with
     |false=>
      have D:=O hT;rw[hT]at b;replace b:=b.trans (show err false 110=Value.int .i64 110 from rfl);subst b;clear hT;go_wp2_with fail
      go_roundw
      case rel=>exact⟨k+1,by omega,by go_num,by rw[z,D];rfl,by(repeat (first|exact i|apply gY|apply jA|(refine I ?_ (by assumption))))⟩
      case measure=>simp[intOf];omega
     |true=>
      have D:=O hT;rw[hT]at b;replace b:=b.trans (show err true 110=Value.int .i64 0 from rfl);subst b;clear hT
      cases hf:oH p0 p1 p2 with
      |true=>
       have v:=O hf;clear hf
       go_wp2_with((with_reducible refine(Eg _ _ _ _).mono ?_);rintro e o ⟨d,g⟩;rw[v]at d;subst d)
       go_roundw
       case rel=>exact⟨k+1,by omega,by go_num,by rw[z,D,v];rfl,by(repeat (first|exact i|apply gY|apply jA|(refine I ?_ (by assumption))))⟩
       case measure=>simp[intOf];omega
      |false=>
       have v:=O hf;clear hf
       go_wp2_with((with_reducible refine(Eg _ _ _ _).mono ?_);rintro e o ⟨d,g⟩;rw[v]at d;subst d)
       go_roundw
       case rel=>exact⟨k+1,by omega,by go_num,by rw[z,D,v];rfl,by(repeat (first|exact i|apply gY|apply jA|(refine I ?_ (by assumption))))⟩
       case measure=>simp[intOf];omega
    .obtain rfl:k=n:=by omega
     go_wp2;go_ret;exact⟨by rw[b];unfold oA;rw[HT];rfl,I Bc i⟩
def S4(w:World)(k:Nat)(zs:List Int)(n:Nat)(e:Ending)(w':World):Prop:=
 ∃a c,e=.returned (.slice a n c)/\IRp (fun b=>w.heap.size<=b/\b<w'.heap.size) w' k a n c zs/\(a=none->c=0)/\Below w w w'
def lc{w base k n T v zs}(h:w.ownsRow base T k v n (zs.map (Value.int .i64))):∃a c,v=.slice a n c/\(a=none->c=0)/\IRp (fun b=>base<=b/\b<w.heap.size) w k a n c zs:=by
 have f:=h.1;rw[aU]at f
 obtain ⟨rfl,rfl⟩|⟨g,cap,p,rfl,l,m,o,s,t,u⟩:=id h.2
 .obtain rfl:zs=[]:=aX.1 (by rw[f,eB])
  exact⟨none,0,rfl,fun _=>rfl,IRp.nil _ _ _ _ _⟩
 .refine⟨_,cap,rfl,(fun e=>by cases e),f,o,fun r=>⟨g,0,rfl,⟨l,TK m⟩,fun j q=>?_⟩⟩
  have d:j<zs.length:=by omega
  have i:=h.cells (g:=g) rfl j (.int .i64 (zs.getD j 0)) (by rw[aR,ae d];simp[ah,d]);rw[Addr.add_mid]at i;exact i
def IRp.none{S:Nat->Prop}{w k n c zs}(h:IRp S w k Option.none n c zs):n=0/\zs=[]:=by
 have:n=0:=by
  apply bg;intro a
  obtain⟨b,off,e,_⟩:=h.2.2 (by omega);cases e
 subst this;exact⟨rfl,aX.1 (by rw[h.1,eB])⟩
def je{ops f o a}{Q:Exit->Act->World->Prop}{w T l z k d}(t:prog.underlying l=some (.slice T))(C:(prog.info? T).map (fun i=>(i.zero,i.size,i.bytes))=some (some z,k,d))(K:z.cells.size=k)(D:0<k)(y:d<=10000)(A:o.guard=none)(s x)(H:o.op=.call {callee:=.builtin .append,args:=#[s,x],argTypes:=#[l,l]})(base v n xs)(hs:a.eval s=v)(hrow:w.ownsRow base T k v n (xs.map (Value.int .i64)))(S:Nat->Prop)(sp m c ys)(hx:a.eval x=.slice sp m c)(hy:IRp S w k sp m c ys)(r:sp=Option.none->c=0)(hn:n+m<=10000000)(hbase:base<=w.heap.size)(h:∀p w',w'.ownsRow base T k p (n+m) ((xs++ys).map (Value.int .i64))->w.grownBy w' v.ownBlock->wpList prog ops Q f (a.put o.dst p) w'):
 wpList prog ops Q (o::f) a w:=by
 have E:=hy.1;refine mS A s x l H base T z k d t C K D v n _ hs hrow sp m c (ys.map (Value.int .i64)) hx (by rw[aU,E]) ?_ (by simp[Value.oneCell']) ?_ (af (cB hn y) (by omega)) (by omega) hbase ?_
 .intro F
  obtain⟨b,off,e,_,r⟩:=hy.2.2 F;refine⟨b,off,e,fun j u g=>?_⟩
  have q:j<ys.length:=by
   apply bg;intro B
   rw[bz (by simp;omega)]at g;cases g
  have:=r j (by omega);rw[aR,ae q]at g;simp at g;subst g;rw[this];simp[ah,q]
 .intro e
  subst e;exact⟨(hy.none).1,r rfl⟩
 .intro p w' h1 h2
  exact h p w' (by rw[aT];exact h1) h2
def Tryz.infoFilm3:(prog.info? 67).map (fun i=>(i.zero,i.size,i.bytes))=some (some (.agg #[oZ,oZ,oZ]),3,24):=by kernel_rfl
def Tryz.infoChange3:(prog.info? 72).map (fun i=>(i.zero,i.size,i.bytes))=some (some (.agg #[oZ,oZ,oZ]),3,24):=by kernel_rfl
def Tryz.infoField2:(prog.info? 112).map (fun i=>(i.zero,i.size,i.bytes))=some (some (.agg #[oZ,oZ]),2,16):=by kernel_rfl
def Tryz.infoWave2:(prog.info? 63).map (fun i=>(i.zero,i.size,i.bytes))=some (some (.agg #[oZ,oZ]),2,16):=by kernel_rfl
def Tryz.infoSurf3:(prog.info? 70).map (fun i=>(i.zero,i.size,i.bytes))=some (some (.agg zS),22,200):=by kernel_rfl
def Tryz.infoConfig3:(prog.info? 75).map (fun i=>(i.zero,i.size,i.bytes))=some (some (.agg #[ik,oN]),2,40):=by kernel_rfl
def zi(zs a n c)(w:World)(h:IR w w 3 a n c zs)(r:n<=1000000)(m:a=none->c=0):
 Calls prog 242 #[Z a n c] w (S4 w 3 zs n):=by
 have H:=O h;clear h
 cases a with
 |none=>
  obtain rfl:=m rfl
  have o:=fun w=>Lib.run_eql_slice_nil (P:=prog) w 68 67 none n 0 0 0 underlying68
  go_enter func242,ntmps242;go_wp2;go_ret;obtain⟨rfl,rfl⟩:=(H.irp (S:=fun _=>True) (fun _ _=>trivial)).none;exact⟨none,0,rfl,IRp.nil _ _ _ _ _,fun _=>rfl,TH _ _⟩
 |some l=>
  clear m
  have o:=fun w=>Lib.run_eql_slice_nil (P:=prog) w 68 67 (some l) n c 0 0 underlying68
  go_enter func242,ntmps242
  go_wp2_with(refine je underlying68 Tryz.infoFilm3 rfl (by omega) (by omega) rfl (.tmp 5) (.tmp 6) rfl w (.slice (J (w.heap.size)) 0 0) 0 [] rfl (World.ownsRow_made w #[] 0 (aa _) (by simp) rfl) (fun b=>b<w.heap.size) (some l) n c zs rfl (IR.irp (H.below ((TH _ _).alloc (aa _) _) (aa _)) (fun _ h=>h)) (fun e=>by cases e) (by omega) (by simp) ?_;intro s q g d;have f:Below w w q:=((TH _ _).alloc (aa _) _).grown d (by simp) (by intro k p;simp[Value.ownBlock]at p;omega);have j:=O g;have i:=O f;clear g d f)
  go_wp2;go_ret;obtain⟨a',c',rfl,h1,h2⟩:=lc (zs:=zs) (by simpa using j.out);exact⟨a',c',rfl,by simpa using h2,h1,i⟩
def Sm(b a k):jr b a [k]=(decide (k<b)||decide (a<k)):=by simp[jr]
def lZ(k a:Int)(w)(h0:0<=a)(h1:a<=9223372036854775807):Calls prog 160 #[k,a] w (iZ w (.bool (!jr (-a) a [k]))):=by
 go_enter func160,ntmps160;go_wp2
 all_goals
  go_ret;refine⟨ai (fun b=>Ending.returned (Value.bool b)) ?_,TH _ _⟩;rw[bJ];simp[Sm] <;>omega
def xM(i p q:Int)(w):Calls prog 161 #[.agg #[i,p,q]] w (iZ w (.bool (oH i p q))):=by
 go_enter func161,ntmps161;go_wp2
 all_goals
  go_ret;refine⟨ai (fun b=>Ending.returned (Value.bool b)) ?_,by(repeat (first|exact TH _ _|apply gY|apply jA|exact below_chain1 (by assumption)|(refine I ?_ (by assumption))|(refine qo ?_ ?_)))⟩;rw[bJ];simp[oH,Sm] <;>omega
structure gM where
 s:gW
 zs:List Int
def gX(s:gW)(a:Option Addr)(n c:Nat):List Value:=[.int .i64 s.kind,.int .i64 s.curv,.int .i64 s.conic,.int .i64 s.t6,.int .i64 s.t7,.int .i64 s.a0,.int .i64 s.a1,.int .i64 s.a2,.int .i64 s.a3,.int .i64 s.p0,.int .i64 s.p1,.int .i64 s.order,.int .i64 s.t8,.string s.i7,.int .i64 s.r9,.int .i64 s.p8,.int .i64 s.dx,.int .i64 s.dy,.int .i64 s.ax,.int .i64 s.ay,.int .i64 s.az,.slice a n c]
def jE:pB gM:=fun S w x cs=>∃a n c,cs=gX x.s a n c/\IRp S w 3 a n c x.zs/\n<=1000000/\(a=none->c=0)/\x.s.i7.size<=9223372036854775807
def iD:kR 22 jE where
 len:=by rintro S w x cs ⟨a,n,c,rfl,_⟩;rfl
 kept:=by rintro S T w w' x cs ⟨a,n,c,e,h,r⟩ d f;exact⟨a,n,c,e,h.kept d f,r⟩
 one:=by rintro S w x cs ⟨a,n,c,rfl,_⟩ v b;unfold gX at b;simp only[aS,bi,cR]at b;obtain rfl|rfl|rfl|rfl|rfl|rfl|rfl|rfl|rfl|rfl|rfl|rfl|rfl|rfl|rfl|rfl|rfl|rfl|rfl|rfl|rfl|rfl:=b<;>rfl
def A1(w:World)(cs T i v):(w.alloc (.cells cs T)).setCell ⟨w.heap.size,i,none⟩ v=w.alloc (.cells (cs.setIfInBounds i v) T):=by
 have e:(w.heap.push (Obj.cells cs T)).modify w (fun o=>match o with| .cells cs t fr=>.cells (cs.setIfInBounds i v) t fr|o=>o)=w.heap.push (Obj.cells (cs.setIfInBounds i v) T):=by
  apply Array.ext
  .simp
  .intro j h1 h2
   rw[Array.getElem_modify,Array.getElem_push,Array.getElem_push];by_cases a:j<w.heap.size
   .rw[aj (by omega),fo a,fo a]
   .have:w.heap.size=j:=by simp at h2;omega
    rw[aq this,eJ a,eJ a]
 show({w.alloc (.cells cs T)with heap:=_}:World)={w with heap:=_}
 rw[<- e];rfl
def tI:∀(d:List Value)(w:World)(b c a:List Value)(T:TypeId),c.length=d.length->(w.alloc (.cells (b++c++a).toArray T)).setCells w b.length d=w.alloc (.cells (b++d++a).toArray T)
 |[],w,b,c,a,T,h=>by
  obtain rfl:c=[]:=aX.1 h;rfl
 |v::d,w,b,o::c,a,T,h=>by
  rw[World.setCells,A1]
  have e:((b++o::c++a).toArray.setIfInBounds b.length v)=((b++[v])++c++a).toArray:=by
   rw[bK,aC,fO,aj (by omega),eC];simp
  rw[e];have:=tI d w (b++[v]) c a T (by simpa using h);rw[al]at this;simpa using this
def J8(w:World)(cs:List Value)(b:cs.length=22)(s a n c):vS (w.alloc (.cells cs.toArray 70)) w s a n c=w.alloc (.cells (⟨s,a,n,c⟩:jt) 70):=by
 have:=tI (gX s a n c) w [] cs [] 70 (by rw[b];rfl);simp only[bD,bG,cI]at this;exact this
def lC{ops b e d W}{Q:Exit->Act->World->Prop}(s a n c)(w:World)(g:W=w.alloc (.cells zS 70))(f:e.guard=none)(x y)(i:e.op=.store 70 x y)(j:d.eval x=.pointer (J (w.heap.size)))(k:d.eval y=.agg (⟨s,a,n,c⟩:jt))(h:wpList prog ops Q b (d.put e.dst undef) (w.alloc (.cells (⟨s,a,n,c⟩:jt) 70))):wpList prog ops Q (e::b) d W:=by
 subst g;refine hE s a n c (TL w _) rfl f x y i j k ?_;rw[J8 w [oZ,oZ,oZ,oZ,oZ,oZ,oZ,oZ,oZ,oZ,oZ,oZ,oZ,ik,oZ,oZ,oZ,oZ,oZ,oZ,oZ,oN] rfl];exact h
def lw{ops d e f w}{Q:Exit->Act->World->Prop}{b o s a n c}(h:w.rangeAt b o (gX s a n c))(g:e.guard=none)(x)(j:e.op=.load 70 x)(k:f.eval x=.pointer (some ⟨b,o,none⟩))(i:wpList prog ops Q d (f.put e.dst (.agg (⟨s,a,n,c⟩:jt))) w):wpList prog ops Q (e::d) f w:=
 wpList_load_mid g 70 x j b o k (gX s a n c) _ h underlying70 rfl Tryz.infoSurf i
def pV{P ops}{Q:Exit->Act->World->Prop}{a w b o}(hw:Region.wanted o (yielded ops a.tmps)=true)(h:∀K:Act->World->Prop,(∀a w,wpList P ops Q b a w->K a w)->o.wp P a w K Q):wpList P ops Q (o::b) a w:=
 wpList_step fun K c=>by rw[aq hw];exact h K c
def zj{ops b e d w}{Q:Exit->Act->World->Prop}{g s a n c}(h:Y w g s a n c)(f:Region.wanted e (yielded ops d.tmps)=true)(x)(k:e.op=.load 70 x)(l:d.eval x=.pointer (J g))(j:wpList prog ops Q b (d.put e.dst (.agg (⟨s,a,n,c⟩:jt))) w):wpList prog ops Q (e::b) d w:=
 pV f fun K i=>wp_load_mid 70 x k g 0 l [s.kind,s.curv,s.conic,s.t6,s.t7,s.a0,s.a1,s.a2,s.a3,s.p0,s.p1,s.order,s.t8,s.i7,s.r9,s.p8,s.dx,s.dy,s.ax,s.ay,s.az,Z a n c] _ h.range underlying70 rfl Tryz.infoSurf (i _ _ j)
def pW{ops d f e w}{Q:Exit->Act->World->Prop}{b o s a n c}(h:w.rangeAt b o (gX s a n c))(g:Region.wanted f (yielded ops e.tmps)=true)(x)(k:f.op=.load 70 x)(l:e.eval x=.pointer (some ⟨b,o,none⟩))(j:wpList prog ops Q d (e.put f.dst (.agg (⟨s,a,n,c⟩:jt))) w):wpList prog ops Q (f::d) e w:=
 pV g fun K i=>wp_load_mid 70 x k b o l (gX s a n c) _ h underlying70 rfl Tryz.infoSurf (i _ _ j)
def Y.coat{w g s a n c}(h:Y w g s a n c)(a' n' c'):Y (w.setCell ⟨g,21,none⟩ (.slice a' n' c')) g s a' n' c':=by
 have:=gG h 21 (.slice a' n' c');simp only[bK,aZ,aW]at this;exact this
def Ph(w:World)(s:gW)(zs:List Int)(n:Nat)(e:Ending)(w':World):Prop:=
 ∃a c,e=.returned (.agg (⟨s,a,n,c⟩:jt))/\IRp (fun b=>w.heap.size<=b/\b<w'.heap.size) w' 3 a n c zs/\(a=none->c=0)/\Below w w w'
def ML(s zs a n c)(w:World)(v:IR w w 3 a n c zs)(Q:n<=1000000)(k:a=none->c=0):
 Calls prog 213 #[.agg (⟨s,a,n,c⟩:jt)] w (Ph w s zs n):=by
 have h1:=Y.new w s a n c;have h2:=TL (w.alloc (.cells (⟨s,a,n,c⟩:jt) 70)) (.cells zS 70);have d:=gY (o:=.cells zS 70) (gY (o:=.cells (⟨s,a,n,c⟩:jt) 70) (TH w w));rw[nB]at h2;have h:=O h1;have j:=O h2;have P:=O v;have M:=O k;have i:=O d;clear h1 h2 v k d;go_enter func213,ntmps213;go_upto_region 1 with fail;refine gI (fun t=>Y t w s a n c/\t.heap[w.heap.size+1]? =some (.cells zS 70 (0,0))/\Below w w t) ⟨Y.go (B:=w.heap.size+1) h ((TH _ _).alloc (by simp) _) (by omega),j,i⟩ ?_;clear h j i;rintro w1 ⟨h1,h2,d⟩;have l:=h1.lt;have m:=TK h2;obtain⟨k0,k1,R,S,T,W,X,k7,k8,k9,x,y,z,A,C,D,E,F,H,K,L,q⟩:=h1.cells;have h:=O h1;have j:=O h2;have i:=O d;clear h1 h2 d k0 k1 R S T W X k7 k8 k9 x y z A C D E F H K L
 go_wp2_with(first
  |((with_reducible refine(zi zs a n c _ (P.out.go i.out) Q M.out).mono ?_);rintro e r ⟨a',c',rfl,hi,k,g⟩;clear q;have fz:=Y.free (Y.go h g l) 21;have q:=(Y.cells (Y.go h g l)).2.2.2.2.2.2.2.2.2.2.2.2.2.2.2.2.2.2.2.2.2;have N:=O hi;have u:=O k;have f:=O g;clear hi k g)
  |(refine gO (Y.coat (Y.go h f l) a' n c') rfl (.tmp 1) rfl rfl ?_)
  |(refine hE s a' n c' (gF ((f.block _ m).trans j) ⟨w.heap.size,21,none⟩ (by simp) _) rfl rfl (.tmp 2) (.tmp 7) rfl rfl rfl ?_))
 refine ar (lu (s:=s) (a:=a') (n:=n) (c:=c') rfl rfl (Y.stored (gF ((f.block _ m).trans j) ⟨w.heap.size,21,none⟩ (by simp) _) rfl s a' n c')) rfl ?_;refine⟨a',c',rfl,N.kept ((gK w [_] 21 r).mono ?_|>.trans ((gK (w+1) (gX s a' n c') 0 _).mono ?_)) ?_,u,?_⟩
 .intro b d;have:=d.1;omega
 .intro b d;have:=d.1;omega
 .intro b d
  refine⟨by have:=d.1;have:=i.size;omega,?_⟩;have:=im (w+1) (gX s a' n c') 0 (r.setCell ⟨w.heap.size,21,none⟩ (.slice a' n c'))
  show b<((r.setCell ⟨w.heap.size,21,none⟩ (.slice a' n c')).setCells (w+1) 0 (gX s a' n c')).heap.size
  rw[this];simpa using d.2
 .exact Below.put22 ((I i f).setCell (p:=⟨w.heap.size,21,none⟩) (aa _) _) (by omega) _ _ _ _
def yB{ops c o a}{Q:Exit->Act->World->Prop}{w:World}{α}(R:pB α){k T d z b}(e:prog.underlying d=some (.slice T))(q:(prog.info? T).map (fun i=>(i.zero,i.size,i.bytes))=some (some z,k,b))(f:b<=10000)(g:o.guard=none)(x y)(t:o.op=Op.makeSlice d x y)(n:Nat)(u:a.eval x=.int .i64 0)(v:a.eval y=.int .i64 (n:Int))(s:n<=1000000)(h:∀w',jD R k T w w' (.slice (J (w.heap.size)) 0 n) []->Below w w w'->wpList prog ops Q c (a.put o.dst (.slice (J (w.heap.size)) 0 n)) w'):wpList prog ops Q (o::c) a w:=by
 obtain⟨i,j,l,m,p⟩:=sd q;refine wpList_make_own w g x y d t w T i z k e j l m .i64 .i64 (n:Int) n u v rfl ?_ (by unfold maxLen;omega) (aa _) ?_
 .rw[p];exact af (cB f s) (by omega)
 .intro w' h1 h2
  exact h w' ⟨[],rfl,by simp,h1,fun i x cs h=>by simp at h⟩ ((TH _ _).grown h2 (aa _) (fun k r=>by cases r))
def Pi{α:Type}(R:pB α)(k:Nat)(T:TypeId)(w:World)(l:List α)(e:Ending)(w':World):Prop:=
 ∃g c,e=.returned (.slice (J g) l.length c)/\jD R k T w w' (.slice (J g) l.length c) l/\Below w w w'
def mn{α:Type}{l:List α}{k x}(h:l[k]? =some x):l.take (k+1)=l.take k++[x]:=by
 rw[eK,h];rfl
def MM(l a n c w)(h:RR jE 22 (fun b=>b<w.heap.size) w a n c l)(hn:n<=1000000):
 Calls prog 212 #[Z a n c,.func (.func 213) #[] #[]] w (Pi jE 22 70 w l):=by
 have H:=O h;clear h;have d:=H.1;go_enter func212,ntmps212
 go_wp2_with(at_make;refine yB jE underlying34 Tryz.infoSurf3 (by omega) rfl _ _ rfl n rfl rfl hn ?_;intro w1 p f;have X:=O p;have T:=O f;clear p f)
 go_loopw [5,13] (fun v C wr=>∃k:Nat,k<=n/\C=.int .i64 (k:Int)/\jD jE 22 70 w wr v (l.take k)/\(∃g c,v=.slice (J g) k c)/\Below w w wr) (fun _ C _=>n-(intOf C).toNat)
 case atStart=>exact⟨0,by omega,rfl,X,⟨_,_,rfl⟩,T⟩
 case round=>
  obtain⟨k,hk,rfl,p,⟨A,c1,rfl⟩,f⟩:=hrel;have o:=O p;have i:=O f;clear p f;by_cases M:k<n
  .obtain⟨b,off,x,cs,rfl,hlt,P,⟨a2,j,c2,rfl,R,y,t,u⟩,N⟩:=(H.go iD i).at M
   have Hx:=O P;have Hz:=O (R.ir (fun _ h=>h));have F:=O t;have Hr:=O N;have K:=O u;clear P R t N u
   have W:(l.take k).length=k:=by rw[bn,d];omega
   go_wp2_with(first
    |(refine lw Hr rfl (.tmp 15) rfl rfl ?_)
    |(refine lC x.s a2 j c2 _ rfl rfl (.tmp 7) (.tmp 16) rfl rfl rfl ?_)
    |(refine gO (Y.new _ x.s a2 j c2) rfl (.tmp 7) rfl rfl ?_)
    |((with_reducible refine(ML x.s x.zs _ j c2 _ (Hz.out.go ((TH _ _).alloc (aa _) _)) y F.out).mono ?_);rintro e D ⟨a',c',rfl,hi,B,q⟩;have Hi:=O hi;have a0:=O B;have m:=O (I (gY (TH _ _)) q);have Q:jE (fun b=>w.heap.size<=b/\b<D.heap.size/\(Value.slice (J A) k c1).ownBlock≠some b) D x (gX x.s a' j c'):=⟨a',j,c',rfl,hi.kept (gN.refl _ _) (fun b f=>⟨by have:=f.1;have:=i.size;simp at*;omega,f.2,o.fresh (by have:=f.1;simp at this;omega)⟩),y,B,K⟩;have Hy:=O Q;clear hi B q Q)
    |(refine qU iD underlying34 Tryz.infoSurf3 rfl (by omega) (by omega) rfl (.tmp 17) (.tmp 21) rfl w D (.slice (J A) k c1) (l.take k) x (gX x.s a' j c') rfl (o.go iD m) rfl rfl Hy (by omega) (af i.size m.size) ?_;intro g3 S w3 z r;have L:=O z;have E:=O r;clear z r))
   go_roundw
   case rel=>exact⟨k+1,by omega,by go_num,by rw[mn Hx];have:=L.out;rwa[W]at this,⟨_,_,rfl⟩,E _ _ (aa _) (I i m)⟩
   case measure=>simp[intOf];omega
  .obtain rfl:k=n:=by omega
   go_wp2;go_ret;have:=o.out;rw[<- d,bf]at this;exact⟨A,c1,by rw[d];rfl,by rw[d];rw[d]at this;exact this,i⟩
structure jd where
 nm:ByteArray
 zs:List Int
def oB:pB jd:=fun S w x cs=>∃a n c,cs=[.string x.nm,.slice a n c]/\IRp S w 3 a n c x.zs/\n<=1000000/\(a=none->c=0)/\x.nm.size<=9223372036854775807
def ky:kR 2 oB where
 len:=by rintro S w x cs ⟨a,n,c,rfl,_⟩;rfl
 kept:=by rintro S T w w' x cs ⟨a,n,c,e,h,r⟩ d f;exact⟨a,n,c,e,h.kept d f,r⟩
 one:=by rintro S w x cs ⟨a,n,c,rfl,_⟩ v b;simp only[aS,bi,cR]at b;obtain rfl|rfl:=b<;>rfl

abbrev bs(l:List UInt8):ByteArray:=⟨l.toArray⟩
def Db(l):(bs l).data.toList=l:=rfl
def oQ(a b):bs a++bs b=bs (a++b):=by
 apply fj;simp
def jN(S:Nat->Prop)(w:World)(a:Option Addr)(n c:Nat)(zs:List Int):Prop:=
 w.ownsRow 0 67 3 (.slice a n c) n (zs.map (Value.int .i64))/\ ∀g,(Value.slice a n c).ownBlock=some g->S g
def xL{w:World}{b b' n k T v xs}(h:w.ownsRow b T k v n xs)(c:b'<=b):w.ownsRow b' T k v n xs:=
 ⟨h.1,h.2.imp id fun⟨g,cap,a,e,d,f⟩=>⟨g,cap,a,e,af c d,f⟩⟩
def jN.own{S:Nat->Prop}{w b n a c zs}(h:w.ownsRow b 67 3 (.slice a n c) n (zs.map (Value.int .i64)))(e:∀g,b<=g->g<w.heap.size->S g):jN S w a n c zs:=
 ⟨xL h (aA _),fun g d=>e g (h.lt g d).1 (h.lt g d).2⟩
def jN.nil(S:Nat->Prop)(w):jN S w none 0 0 []:=⟨World.ownsRow_nil _ _ _ _,fun g h=>by cases h⟩
def jN.kept{S T:Nat->Prop}{w w' a n c zs}(h:jN S w a n c zs)(i:gN S w w')(j:∀b,S b->T b):jN T w' a n c zs:=by
 obtain⟨⟨h1,h2⟩,h3⟩:=h;refine⟨⟨h1,h2.imp id ?_⟩,fun g f=>j g (h3 g f)⟩;rintro⟨g,cap,d,e,k,l,m⟩;exact⟨g,cap,d,e,k,(i g (h3 g (by rw[e];rfl))).trans l,m⟩
def jN.none{S:Nat->Prop}{w a n c zs}(h:jN S w a n c zs):a=none->c=0:=by
 intro e
 obtain ⟨b,_⟩|⟨g,cap,d,b,_⟩:=h.1.2
 .cases b;rfl
 .rw[e]at b;cases b
def jN.irp{S:Nat->Prop}{w a n c zs}(h:jN S w a n c zs):IRp S w 3 a n c zs:=by
 obtain⟨a',c',e,h1,h2⟩:=lc h.1;cases e;refine⟨h2.1,h2.2.1,fun f=>?_⟩;obtain⟨b,off,e,_,d⟩:=h2.2.2 f;exact⟨b,off,e,h.2 b (by rw[e];rfl),d⟩
def jN.len{S:Nat->Prop}{w a n c zs}(h:jN S w a n c zs):zs.length=n*3:=h.irp.1
structure jT where
 y:gM
 lo:Nat
 hi:Nat
def rL:pB jT:=fun S w x cs=>∃a n c,cs=gX x.y.s a n c/\jN (fun b=>S b/\x.lo<=b/\b<x.hi) w a n c x.y.zs/\n<=1000000/\x.y.s.i7.size<=9223372036854775807
def rL.r{S:Nat->Prop}{w x cs}(h:rL S w x cs):jE S w x.y cs:=by
 obtain⟨a,n,c,e,h1,h2,h3⟩:=h;exact⟨a,n,c,e,h1.irp.kept (gN.refl _ _) (fun b h=>h.1),h2,h1.none,h3⟩
def jX:kR 22 rL where
 len:=by rintro S w x cs ⟨a,n,c,rfl,_⟩;rfl
 kept:=by rintro S T w w' x cs ⟨a,n,c,e,h,r⟩ d f;exact⟨a,n,c,e,h.kept (d.mono (fun b h=>h.1)) (fun b h=>⟨f b h.1,h.2⟩),r⟩
 one:=by intro S w x cs h;exact iD.one h.r
def qt(l:List jT):List gM:=l.map jT.y
def CW{l}{i:Nat}{x}(h:(qt l)[i]? =some x):∃q,l[i]? =some q/\q.y=x:=by
 unfold qt at h;rw[aR]at h
 cases hq:l[i]? with
 |none=>rw[hq]at h;cases h
 |some q=>rw[hq]at h;exact⟨q,rfl,by simpa using h⟩
def Ek(l m):qt (l++m)=qt l++qt m:=aT
def mD(l):(qt l).length=l.length:=aU _
def El(l i x):qt (l.set i x)=(qt l).set i x.y:=by unfold qt;rw[List.map_set]
def jD.qr{T base w v l}(h:jD rL 22 T base w v l):jD jE 22 T base w v (qt l):=by
 obtain⟨css,h1,h2,h3,a⟩:=h;refine⟨css,by rw[mD];exact h1,h2,by rw[mD];exact h3,fun i x cs d b=>?_⟩;obtain⟨q,c,rfl⟩:=CW d;exact(a i q cs c b).r
def qu(l:List jT):Prop:=∀(i j:Nat)(x y:jT),l[i]? =some x->l[j]? =some y->i≠j->x.hi<=y.lo\/y.hi<=x.lo
def qu.nil:qu []:=fun i j x y h=>by simp at h
def qu.snoc{l}(h:qu l){x:jT}(d:∀y∈l,y.hi<=x.lo):qu (l++[x]):=by
 intro i j p q b a c;rw[List.getElem?_append]at b a;split at b
 .split at a
  .exact h i j p q b a c
  .rename_i h1 h2
   have e:q=x:=by
    have:j-l.length=0:=by
     refine eW fun h0=>?_
     rw[bz (by simp;omega)]at a;cases a
    rw[this]at a;simpa using a.symm
   subst e;exact VR (d p (aL b))
 .rename_i h1
  have ep:i-l.length=0:=by
   refine eW fun h0=>?_
   rw[bz (by simp;omega)]at b;cases b
  have e:p=x:=by rw[ep]at b;simpa using b.symm
  subst e;split at a
  .exact VS (d q (aL a))
  .have eq:j-l.length=0:=by
    refine eW fun h0=>?_
    rw[bz (by simp;omega)]at a;cases a
   omega
def qu.set{l}(h:qu l){k x}(e:∀j y,l[j]? =some y->j≠k->y.hi<=x.lo\/x.hi<=y.lo):qu (l.set k x):=by
 intro i j p q b a d;rw[cF]at b a;by_cases hi:k=i
 .rw[aq hi]at b
  rw[aj (by omega)]at a;split at b
  .cases b
   exact(e j q a (by omega)).symm
  .cases b
 .rw[aj hi]at b
  by_cases c:k=j
  .rw[aq c]at a
   split at a
   .cases a
    exact e i p b (by omega)
   .cases a
  .rw[aj c]at a
   exact h i j p q b a d
def Em(B:Nat)(l:List jT):Prop:=∀x∈l,x.lo<=x.hi/\x.hi<=B
def Em.mono{B a l}(h:Em B l)(c:B<=a):Em a l:=fun x b=>⟨(h x b).1,af (h x b).2 c⟩
def Em.snoc{B l}(h:Em B l){x:jT}(h1:x.lo<=x.hi)(h2:x.hi<=B):Em B (l++[x]):=by
 intro y a
 obtain a|a:=bj.1 a
 .exact h y a
 .obtain rfl:=aK.1 a;exact⟨h1,h2⟩
def Sh{α:Type}(R:pB α)(o:Option Nat):pB α:=fun S w x cs=>R (fun b=>S b/\o≠some b) w x cs
def BT{α:Type}{k:Nat}{R:pB α}(ok:kR k R)(o:Option Nat):kR k (Sh R o) where
 len:=fun h=>ok.len h
 kept:=fun h a c=>ok.kept h (a.mono (fun b h=>h.1)) (fun b h=>⟨c b h.1,h.2⟩)
 one:=fun h=>ok.one h
def jD.rro{α R k}(ok:kR k R){T base w}{a:Option Addr}{n c:Nat}{l:List α}(h:jD R k T base w (.slice a n c) l):RR (Sh R (Value.slice a n c).ownBlock) k (fun b=>base<=b/\b<w.heap.size) w a n c l:=by
 have o:=h.rr ok;refine⟨o.1,o.2.1,fun u=>?_⟩;obtain⟨b,off,e,s,m⟩:=o.2.2 u;obtain⟨css,h1,h2,h3,r⟩:=id h
 obtain ⟨f,h0⟩|⟨g,cap,z,f,y,A,B,C,D,E⟩:=h3.2
 .cases f;cases e
 .cases f;cases e
  refine⟨_,0,rfl,⟨y,s⟩,fun i x q=>?_⟩;have hi:i<l.length:=(TG.1 q).1;have d:css[i]? =some css[i]:=ae (by omega);refine⟨css[i],ok.kept (r i x _ q d) (gN.refl _ _) (fun b h=>⟨⟨h.1,h.2.1⟩,h.2.2⟩),fun j v p=>?_⟩
  have t:j<k:=by
   have:=(TG.1 p).1;rw[h2 css[i] (cW _)]at this;exact this
  have m:=h3.cells rfl (i*k+j) v (by rw[mC css i _ j h2 d t];exact p);rw[Addr.add_mid,<- cN]at m;exact m
def oJ(base:Nat)(w:World)(v:Value)(l:List gM):Prop:=
 ∃a:List jT,qt a=l/\jD rL 22 70 base w v a/\qu a/\ ∀q∈a,base<=q.lo/\q.lo<=q.hi/\q.hi<=w.heap.size
def oJ.r{base w v l}(h:oJ base w v l):jD jE 22 70 base w v l:=by
 obtain⟨a,rfl,h,_⟩:=h;exact h.qr
def oJ.nil(base w):oJ base w (.slice none 0 0) []:=⟨[],rfl,jD.nil _ _ _ _ _,qu.nil,fun q a=>by cases a⟩
def oJ.go{base w w' v l}(h:oJ base w v l)(c:Below w w w'):oJ base w' v l:=by
 obtain⟨d,h1,h2,h3,a⟩:=h;exact⟨d,h1,h2.go jX c,h3,fun q b=>⟨(a q b).1,(a q b).2.1,af (a q b).2.2 c.size⟩⟩
def jD.down{α R k}(ok:kR k R){T base a w}{v:Value}{l:List α}(h:jD R k T base w v l)(c:a<=base):jD R k T a w v l:=by
 obtain⟨css,h1,h2,h3,d⟩:=h;exact⟨css,h1,h2,xL h3 c,fun i x cs f e=>ok.kept (d i x cs f e) (gN.refl _ _) (fun b h=>⟨af c h.1,h.2⟩)⟩
def oJ.down{base a w v l}(h:oJ base w v l)(c:a<=base):oJ a w v l:=by
 obtain⟨e,h1,h2,h3,b⟩:=h;exact⟨e,h1,h2.down jX c,h3,fun q d=>⟨af c (b q d).1,(b q d).2⟩⟩
def tY(c):∀(A:List UInt8),(∀b∈A,b≠c)->index A [c]= -1
 |[],_=>rfl
 |b::A,h=>by
  have i:=tY c A (fun d f=>h d (au _ f));have a:=h b aG
  have g:([c]:List UInt8).isPrefixOf (b::A)=false:=by
   show((c:UInt8)==b&&_)=false
   rw[cL];exact VR (ak.2 (fun e=>a e.symm))
  rw[index,g,i];rfl
def xn(c):∀(A f:List UInt8),(∀b∈A,b≠c)->index (A++c::f) [c]=A.length
 |[],f,_=>by
  have a:([c]:List UInt8).isPrefixOf (c::f)=true:=by
   show((c:UInt8)==c&&_)=true
   simp
  rw[bD,index,a];rfl
 |b::A,f,h=>by
  have k:=xn c A f (fun d i=>h d (au _ i));have g:=h b aG
  have a:([c]:List UInt8).isPrefixOf (b::(A++c::f))=false:=by
   show((c:UInt8)==b&&_)=false
   rw[cL];exact VR (ak.2 (fun e=>g e.symm))
  have j:((A.length:Int)== -1)=false:=by rw[ak];omega
  rw[bF,index,a,k,j,aH];simp
def Il(c):∀(l:List UInt8),(∀b∈l,b≠c)\/ ∃A f,(∀b∈A,b≠c)/\l=A++c::f
 |[]=>VR (by simp)
 |b::l=>by
  by_cases a:b=c
  .exact VS ⟨[],l,by simp,by rw[a];rfl⟩
  .obtain h|⟨A,f,h,e⟩:=Il c l
   .exact VR (by simp only[aS,fE];exact⟨a,h⟩)
   .exact VS ⟨b::A,f,by simp only[aS,fE];exact⟨a,h⟩,by rw[e];rfl⟩
def sM:∀(l w:List UInt8),(∀b∈l,b≠10)->io w l=[w++l]
 |[],w,_=>by simp[io]
 |b::l,w,h=>by
  have a:(b==10)=false:=ak.2 (h b aG);rw[io,a,aj (by simp),sM l _ (fun d c=>h d (au _ c))];simp
def vx:∀(A w f:List UInt8),(∀b∈A,b≠10)->io w (A++10::f)=(w++A)::io [] f
 |[],w,f,_=>by simp[io]
 |b::A,w,f,h=>by
  have a:(b==10)=false:=ak.2 (h b aG);rw[bF,io,a,aj (by simp),vx A _ f (fun d c=>h d (au _ c))];simp
def Fl(c){A f}(h:∀b∈A,b≠c):count (A++c::f) [c]=1+count f [c]:=by
 rw[count_hit (i:=A.length) (by simp) (xn c A f h)];congr 2;rw[show A.length+([c]:List UInt8).length=A.length+1 from rfl,<- eE,List.drop_left];rfl
def xW:∀(n:Nat)(l:List UInt8),l.length<=n->splitK [10] 0 (count l [10]) l=io [] l
 |n,l,hn=>by
  obtain h|⟨A,f,h,rfl⟩:=Il 10 l
  .rw[count_miss (tY 10 l h),sM l _ h];rfl
  .match n,hn with
   |0,hn=>simp at hn
   |n+1,hn=>
    have a:((A.length:Int)== -1)=false:=by rw[ak];omega
    rw[Fl 10 h,fA,splitK,xn 10 A f h,a,aj (by simp),vx A _ f h,aI,bE,List.take_left];rw[show A.length+([10]:List UInt8).length=A.length+1 from rfl,<- eE,List.drop_left];rw[show List.drop 1 (10::f)=f from rfl,xW n f (by simp at hn;omega)];rfl
def Dr(l):(splitB (bs [10]) 0 (countB (bs l) (bs [10])) (bs l))=(io [] l).map bs:=by
 have h:=splitB_data (bs [10]) 0 (countB (bs l) (bs [10])) (bs l);rw[show countB (bs l) (bs [10])=count l [10]from rfl]at h⊢;rw[show(bs [10]).data.toList=[10]from rfl,show(bs l).data.toList=l from rfl,xW l.length l (aa _)]at h;rw[<- h,dD];exact(fY (fun x=>rfl) _).symm
def xX:∀(n:Nat)(l:List UInt8),l.length<=n->(io [] l).length=count l [10]+1
 |n,l,hn=>by
  obtain h|⟨A,f,h,rfl⟩:=Il 10 l
  .rw[count_miss (tY 10 l h),sM l _ h];rfl
  .match n,hn with
   |0,hn=>simp at hn
   |n+1,hn=>rw[Fl 10 h,vx A _ f h,aH,xX n f (by simp at hn;omega)];omega
def Nz(l a b):(bs l).extract a b=bs ((l.drop a).take (b-a)):=by
 apply fj;apply fU;simp[gu,List.take_drop]
def TO(l:List UInt8)(pos:Nat):Option Nat->List UInt8
 |none=>[]
 |some a=>(l.drop a).take (pos-a)
def Im(l:List UInt8)(p j):(l.drop p).getD j 0=l.getD (p+j) 0:=by simp[List.getD,cp]
def K8{l:List UInt8}{pos}(h:pos<l.length):l.drop pos=l.getD pos 0::l.drop (pos+1):=by
 rw[dG h,ah,ae h];rfl
def La(l:List UInt8)(a pos k)(h:a<=pos):(l.drop a).take (pos-a)++(l.drop pos).take k=(l.drop a).take (pos+k-a):=by
 have e:l.drop pos=(l.drop a).drop (pos-a):=by rw[eE];congr 1;omega
 rw[e,show pos+k-a=(pos-a)+k by omega,List.take_add]
def wh(s z a n c)(w:World)(h:LG w w s a n c z):
 Calls prog 173 #[.agg #[s,Z a n c]] w (tb w (-z)):=by
 have d:Below w w ((w.alloc (.cells #[s,Z a n c] 221)).alloc (.cells #[false,oN] 221)):=iH _ _;have g:=(h.2.1.below d (aa _)).mono d.size;have p:=h.1;have x:=h.2.2;have o:=h.2.1.len;have H:=O g;clear g;have i:=O d;clear d;have t:=O p;clear p;have r:=O o;clear o h;go_enter func173,ntmps173;go_wp2_with fail;refine(nl (!s) (ip z.natAbs) (-z) _ _ _ _ H (iU _) (by omega) (by rw[iY,aI,<- r];exact x) ?_).mono ?_
 .have:=t.out
  rw[iY,this];by_cases h0:z<0
  .simp[h0];omega
  .simp[h0];omega
 rintro e C ⟨s',a',n',c',rfl,f,b,hf⟩;obtain⟨u,l⟩:=iN w (.cells #[s,Z a n c] 221) (.cells #[false,oN] 221);have m:=(b.block (w+1) (by simp)).trans l;obtain⟨k1,y,A,B⟩:=gQ m;have k:=O f;have q:=O hf;have j:=O b;clear f hf b u l m;go_wp2_with fail;refine ar (v:=.agg #[s',Z a' n' c']) ?_ rfl ?_
 .simp[results,results173,go_sem,k1,y]
 .exact pF k (i.trans (j.mono i.size)) q (w+1) (by simp) (by omega) _ _
def Pc(b:UInt8):Bool:=b==32
def iA:List UInt8->List UInt8->List (List UInt8)
 |v,[]=>if v=[]then[]else[v]
 |v,b::l=>if Pc b then(if v=[]then iA [] l else v::iA [] l)else iA (v++[b]) l
def Fm(r:Nat):Bool:=r==32
def Ds(b):Pc b=Fm b.toNat:=by
 unfold Pc Fm;rw[bJ];simp only[dz];exact⟨fun h=>by rw[h];rfl,fun h=>UInt8.toNat.inj h⟩
def JF(r):Fm r=true↔r=32:=by unfold Fm;simp
def Io(r):Fm r=false↔r≠32:=by unfold Fm;rw[ak]
def Ry(n b0 b1 b2 b3):Fm (decodeN n b0 b1 b2 b3).1=true->(decodeN n b0 b1 b2 b3).2=1/\b0=32:=by
 rw[JF];unfold decodeN
 repeat' split
 all_goals first
  |(intro h;exact⟨rfl,h⟩)
  |(intro h;simp only at h;omega)
def NA(n b0 b1 b2 b3):Fm (decodeN n b0 b1 b2 b3).1=false->b0≠32:=by
 rw[Io];unfold decodeN
 repeat' split
 all_goals(intro h;simp only at h;omega)
def Ip{b}(h:b.toNat/64=2):Pc b=false:=by
 rw[Ds,Io];omega
def SE{l pos}(h:Fm (Utf8.decode (bs l) pos).1=true):(Utf8.decode (bs l) pos).2=1/\Pc (l.getD pos 0)=true:=by
 rw[decode_N]at h⊢;obtain⟨h1,h2⟩:=Ry _ _ _ _ _ h;refine⟨h1,?_⟩;rw[Ds,JF];exact h2
def PO{l pos}(b:pos<l.length)(h:Fm (Utf8.decode (bs l) pos).1=false):pos+(Utf8.decode (bs l) pos).2<=l.length/\1<=(Utf8.decode (bs l) pos).2/\ ∀j,j<(Utf8.decode (bs l) pos).2->Pc (l.getD (pos+j) 0)=false:=by
 rw[decode_N]at h⊢;rw[show(bs l).data.toList=l from rfl]at h⊢;have h1:=NA _ _ _ _ _ h;have h2:=decodeN_le_n' (l.length-pos) (l.getD pos 0).toNat (l.getD (pos+1) 0).toNat (l.getD (pos+2) 0).toNat (l.getD (pos+3) 0).toNat (by omega);obtain⟨c1,c2,c3,c4⟩:=decodeN_conts (l.length-pos) (l.getD pos 0).toNat (l.getD (pos+1) 0).toNat (l.getD (pos+2) 0).toNat (l.getD (pos+3) 0).toNat;have h5:=decodeN_ge1 (l.length-pos) (l.getD pos 0).toNat (l.getD (pos+1) 0).toNat (l.getD (pos+2) 0).toNat (l.getD (pos+3) 0).toNat;refine⟨by omega,h5,fun j a=>?_⟩
 match j,a with
 |0,_=>rw[bE,Ds,Io];exact h1
 |1,a=>exact Ip (c1 (by omega)).1
 |2,a=>exact Ip (c2 (by omega)).1
 |3,a=>exact Ip (c3 (by omega)).1
 |j+4,a=>omega
def Lc{w l b}(h:Pc b=true):iA w (b::l)=(if w=[]then[]else[w])++iA [] l:=by
 rw[iA,h,aq rfl];split<;>simp
def xY:∀(k:Nat)(w l:List UInt8),k<=l.length->(∀j,j<k->Pc (l.getD j 0)=false)->iA w l=iA (w++l.take k) (l.drop k)
 |0,w,l,_,_=>by simp
 |k+1,w,[],h,_=>by simp at h
 |k+1,w,b::l,h,hs=>by
  have h0:=hs 0 (by omega);rw[fd]at h0;rw[iA,h0,aj (by simp),xY k (w++[b]) l (by simp at h;omega) (fun j a=>by have:=hs (j+1) (by omega);rwa[eA]at this)];simp
def Dt(l):∀(f pos:Nat)(c:Option Nat)(d:List (Nat×Nat)),l.length<=pos+f->pos<=l.length->(∀a,c=some a->a<pos)->
 (closeSpans (bs l) (spansFromP Fm (bs l) f pos c d)).map (fun x=>(bs l).extract x.1 x.2)=d.map (fun x=>(bs l).extract x.1 x.2)++(iA (TO l pos c) (l.drop pos)).map bs:=by
 have i:∀(pos:Nat)(c:Option Nat)(d:List (Nat×Nat)),pos=l.length->(∀a,c=some a->a<pos)->
  (closeSpans (bs l) (d,c)).map (fun x=>(bs l).extract x.1 x.2)=d.map (fun x=>(bs l).extract x.1 x.2)++(iA (TO l pos c) (l.drop pos)).map bs:=by
  intro pos c d o g;subst o;rw[List.drop_length]
  cases c with
  |none=>simp[closeSpans,TO,iA]
  |some a=>
   have h:=g a rfl
   have m:¬TO l l.length (some a)=[]:=by
    intro e;have:=ai List.length e;simp[TO]at this;omega
   simp only[closeSpans,iA];rw[aj m,aT,aN,bI,Nz];rfl
 intro f
 induction f with
 |zero=>
  intro pos c d s o g;exact i pos c d (by omega) g
 |succ f n=>
  intro pos c d s o g;by_cases hlt:pos<l.length
  .have k:pos<(bs l).size:=hlt
   cases hs:Fm (Utf8.decode (bs l) pos).1
   .obtain⟨k1,p,t⟩:=PO hlt hs
    have hw:=xY (Utf8.decode (bs l) pos).2 (TO l pos c) (l.drop pos) (by rw[eQ];omega) (fun j r=>by rw[Im];exact t j r);rw[eE]at hw;rw[hw]
    cases c with
    |none=>
     rw[spansFromP,aq k,hs,aj (by simp)];rw[n _ _ _ (by omega) (by omega) (fun a h=>by cases h;omega)];simp only[TO,bD];congr 4;omega
    |some a=>
     rw[spansFromP,aq k,hs,aj (by simp)];have h:=g a rfl;rw[n _ _ _ (by omega) (by omega) (fun b q=>by cases q;omega)];simp only[TO];rw[La l a pos _ (by omega)]
   .obtain⟨k1,p⟩:=SE hs
    rw[K8 hlt,Lc p]
    cases c with
    |none=>
     rw[spansFromP,aq k,hs,aq rfl];rw[k1,n _ _ _ (by omega) (by omega) (fun a h=>by cases h)];simp[TO]
    |some a=>
     rw[spansFromP,aq k,hs,aq rfl];have h:=g a rfl
     have m:¬TO l pos (some a)=[]:=by
      intro e;have:=ai List.length e;simp[TO]at this;omega
     rw[k1,n _ _ _ (by omega) (by omega) (fun a h=>by cases h)];rw[aj m,aT,aT,aN,bI,aC,Nz];rfl
  .rw[spansFromP_end _ _ _ _ _ _ (show¬pos<(bs l).size from hlt)]
   exact i pos c d (by omega) g
def Bm(l):goFieldsP Fm (bs l)=(iA [] l).map bs:=by
 have h:=Dt l l.length 0 none [] (by omega) (aA _) (fun a h=>by cases h);unfold goFieldsP spansOfP;rw[show(bs l).size=l.length from rfl,h];simp[TO]
def ro{z d k}(c:z.natAbs<10^(k+d))(a:1<=k):(iz z d).length<=k+d+2:=by
 unfold iz oR;have b:0<10^d:=cy (by omega)
 have h1:z.natAbs/10^d<10^k:=by rw[cK b,<- dm];exact c
 have h2:(decDigits (z.natAbs/10^d)).length<=k:=by
  rw[decDigits_length];exact mJ h1 a
 have h3:=pG d (z.natAbs%10^d);rw[al,al]
 have e:(if z<0 then[45]else([]:List UInt8)).length<=1:=by split<;>simp
 have h5:(if z.natAbs%10^d=0 then([]:List UInt8)else 46::jf d (z.natAbs%10^d)).length<=d+1:=by
  split
  .simp
  .simp;omega
 omega

def EI{u k}(h:(ip u).length<=k)(a:1<=k):(Lib.decDigits u).length<=9*k:=by
 rw[Lib.decDigits_length]
 obtain e|e:=Dd u
 .omega
 .subst e;rw[Lib.nDigits_small (by omega)];omega
def Td(s:gW)(w):(Op.equalIn 10000 64 (.agg #[s.a0,s.a1,s.a2,s.a3]) (.agg #[s.a0,s.a1,s.a2,s.a3])).run prog w=.ok true w:=by
 have h:=sk 9998 (n:=4) (k':=.i64) underlying64 (by kernel_rfl) underlying3 (by kernel_rfl) [s.a0,s.a1,s.a2,s.a3] [s.a0,s.a1,s.a2,s.a3] rfl rfl w;simpa using h
def Te(s:gW)(w):(Op.equalIn 10000 65 (.agg #[s.p0,s.p1]) (.agg #[s.p0,s.p1])).run prog w=.ok true w:=by
 have h:=sk 9998 (n:=2) (k':=.i64) underlying65 (by kernel_rfl) underlying3 (by kernel_rfl) [s.p0,s.p1] [s.p0,s.p1] rfl rfl w;simpa using h
def IP(s xs a b n c d)(w:World)(x:IR w w 3 a n c xs)(y:IR w w 3 b n d xs)(hn:n<=1000000):
 Calls prog 56 #[.agg (⟨s,a,n,c⟩:jt),.agg (⟨s,b,n,d⟩:jt)] w (iZ w (.bool true)):=by
 obtain⟨v,m⟩:=iN w (.cells (⟨s,a,n,c⟩:jt) 70) (.cells (⟨s,b,n,d⟩:jt) 70);have f:=iH (w:=w) (.cells (⟨s,a,n,c⟩:jt) 70) (.cells (⟨s,b,n,d⟩:jt) 70);have t:=O x;have u:=O y;have q:=O v;have r:=O m;have e:=O f;clear x y v m f;go_enter func56,ntmps56;go_upto_region 1 with fail;refine gI (fun p=>Y p w s a n c/\Y p (w+1) s b n d/\Below w w p) ⟨q,r,e⟩ ?_;clear q r e;rintro w1 ⟨h1,h2,f⟩;have j:=h1.lt;have l:=h2.lt;have c1:=h1.cells.2.2.2.2.2.2.2.2.2.2.2.2.2.2.2.2.2.2.2.2.2;have c2:=h2.cells.2.2.2.2.2.2.2.2.2.2.2.2.2.2.2.2.2.2.2.2.2;have g:=O h1;have h:=O h2;have e:=O f;clear h1 h2 f;go_wp2_with fail
 go_loopw [5] (fun o wr=>∃k:Nat,k<=n/\o=.int .i64 (k:Int)/\Y wr w s a n c/\Y wr (w+1) s b n d/\Below w w wr) (fun o _=>n-(intOf o).toNat)
 case atStart=>exact⟨0,aA _,rfl,g,h,e⟩
 case round=>
  clear c1 c2 g h e j l;obtain⟨k,hk,rfl,h1,h2,f⟩:=hrel;have j:=h1.lt;have l:=h2.lt;have c1:=h1.cells.2.2.2.2.2.2.2.2.2.2.2.2.2.2.2.2.2.2.2.2.2;have c2:=h2.cells.2.2.2.2.2.2.2.2.2.2.2.2.2.2.2.2.2.2.2.2.2;have g:=O h1;have h:=O h2;have e:=O f;clear h1 h2 f;by_cases i:k<n
  .obtain⟨b1,o1,rfl,l1,x0,x1,x2⟩:=(t.go e).at3 i
   obtain⟨b2,o2,rfl,l2,y0,y1,y2⟩:=(u.go e).at3 i;generalize xs.getD (k*3) 0=p0 at*;generalize xs.getD (k*3+1) 0=p1 at*;generalize xs.getD (k*3+2) 0=p2 at*;go_wp2_with fail
   go_quiet (fail)
   go_wp2_with fail
   go_roundw
   case rel=>exact⟨k+1,by omega,by go_num,Y.of_dr g,Y.of_dr h,gV e _⟩
   case measure=>simp[intOf];omega
  .obtain rfl:k=n:=by omega
   go_upto_region 8 with fail;clear c1 c2 t u;obtain⟨k0,k1,k2,k3,k4,k5,k6,k7,k8,k9,P,Q,R,S,T,W,X,a0,a1,a2,a3,a4⟩:=g.cells;obtain⟨j0,j1,j2,j3,j4,j5,j6,j7,j8,j9,z,A,B,C,D,E,F,H,K,L,M,N⟩:=h.cells;have e4:=Td s wr;have m:=Te s wr;clear g h;go_wp2;go_ret;exact⟨rfl,e⟩
def BR(S:Nat->Prop)(w:World)(a:Option Addr)(n c:Nat)(zs:List Int):Prop:=
 zs.length=n/\n<=c/\(∀j,j<n-> ∃b off,a=some ⟨b,off,none⟩/\S b/\w.cell? ⟨b,off+j,none⟩=some (.int .u8 (zs.getD j 0))/\0<=zs.getD j 0/\zs.getD j 0<=255)
def BR.kept{S T:Nat->Prop}{w w' a n c zs}(h:BR S w a n c zs)(f:gN S w w')(g:∀b,S b->T b):BR T w' a n c zs:=
 ⟨h.1,h.2.1,fun j d=>let⟨b,off,e,hb,hc,hr⟩:=h.2.2 j d;⟨b,off,e,g b hb,(f.cell (p:=⟨b,off+j,none⟩) hb).trans hc,hr⟩⟩
def BR.go{w w' a n c zs}(h:BR (fun b=>b<w.heap.size) w a n c zs)(d:Below w w w'):BR (fun b=>b<w'.heap.size) w' a n c zs:=
 h.kept (gE d) (fun b h=>ab h d.size)
structure tz where
 kind:Int
 c0:Int
 c1:Int
 k0:Int
 k1:Int
 h0:Int
 h1:Int
 h2:Int
 h3:Int
 p0:Int
 p1:Int
 order:Int
 t8:Int
 i7:Int
 r9:Int
 p8:Int
 b0:Int
 b1:Int
 b2:Int
 b3:Int
 b4:Int
 films:List Int
def tU(z:Int):Prop:= -128<=z/\z<=127
def qD(z:Int):Prop:= -32768<=z/\z<=32767
def og(z:Int):Prop:=0<=z/\z<=255
def Ci(z:Int):Prop:=0<=z/\z<=65535
structure tz.In (x:tz):Prop where
 kind:og x.kind
 c0:qD x.c0
 c1:qD x.c1
 k0:qD x.k0
 k1:qD x.k1
 h0:tU x.h0
 h1:tU x.h1
 h2:tU x.h2
 h3:tU x.h3
 p0:tU x.p0
 p1:tU x.p1
 order:tU x.order
 t8:qD x.t8
 i7:og x.i7
 r9:og x.r9
 p8:og x.p8
 b0:tU x.b0
 b1:tU x.b1
 b2:tU x.b2
 b3:tU x.b3
 b4:tU x.b4
def pg(x:tz)(a:Option Addr)(n c:Nat):List Value:=[.int .u8 x.kind,.int .i16 x.c0,.int .i16 x.c1,.int .i16 x.k0,.int .i16 x.k1,.int .i8 x.h0,.int .i8 x.h1,.int .i8 x.h2,.int .i8 x.h3,.int .i8 x.p0,.int .i8 x.p1,.int .i8 x.order,.int .i16 x.t8,.int .u8 x.i7,.int .u8 x.r9,.int .u8 x.p8,.int .i8 x.b0,.int .i8 x.b1,.int .i8 x.b2,.int .i8 x.b3,.int .i8 x.b4,.slice a n c]
abbrev Rf(x:tz)(a:Option Addr)(n c:Nat):Value:=.agg #[.int .u8 x.kind,.int .i16 x.c0,.int .i16 x.c1,.int .i16 x.k0,.int .i16 x.k1,.int .i8 x.h0,.int .i8 x.h1,.int .i8 x.h2,.int .i8 x.h3,.int .i8 x.p0,.int .i8 x.p1,.int .i8 x.order,.int .i16 x.t8,.int .u8 x.i7,.int .u8 x.r9,.int .u8 x.p8,.int .i8 x.b0,.int .i8 x.b1,.int .i8 x.b2,.int .i8 x.b3,.int .i8 x.b4,Z a n c]
def Rg:pB tz:=fun S w x cs=>∃a n c,cs=pg x a n c/\BR S w a n c x.films/\x.In
def Sy:kR 22 Rg where
 len:=by rintro S w x cs ⟨a,n,c,rfl,_⟩;rfl
 kept:=by rintro S T w w' x cs ⟨a,n,c,e,h,r⟩ d f;exact⟨a,n,c,e,h.kept d f,r⟩
 one:=by rintro S w x cs ⟨a,n,c,rfl,_⟩ v b;unfold pg at b;simp only[aS,bi,cR]at b;obtain rfl|rfl|rfl|rfl|rfl|rfl|rfl|rfl|rfl|rfl|rfl|rfl|rfl|rfl|rfl|rfl|rfl|rfl|rfl|rfl|rfl|rfl:=b<;>rfl
def Bj(w:World)(g:Nat)(x:tz)(a:Option Addr)(n c:Nat):Prop:=w.heap[g]? =some (.cells (pg x a n c).toArray 153 (0,0))
def Bj.go{w w' g x a n c}(h:Bj w g x a n c)(b:Below w w w'):Bj w' g x a n c:=(b.block g (TK h)).trans h
def uC{w:World}{T cs ys k b}(c:b=w.heap.size)(d:ys.length=1*k)(h:cs=(ys.map (Value.int .i64)).toArray):IRp (fun _=>True) (w.alloc (.cells cs T)) k (J b) 1 1 ys:=by
 subst h c;refine⟨d,aa _,fun _=>⟨_,0,rfl,trivial,fun j e=>?_⟩⟩
 have a:j<ys.length:=by omega
 have:=gA (TL w (.cells (ys.map (Value.int .i64)).toArray T)) j;rw[aV,this];simp[ah,a]
def kB{zs ys:List Int}{j}(h:j<zs.length):(zs++ys).getD j 0=zs.getD j 0:=by
 rw[ah,aF h,ah]
def mb{zs ys:List Int}{m j}(h:zs.length=m):(zs++ys).getD (m+j) 0=ys.getD j 0:=by
 rw[ah,aY (by omega),ah,show m+j-zs.length=j by omega]
def HU{zs i a p q}(b:zs.length=i*3)(h:(List.range i).all (mP zs)=true)(hf:oH a p q=true):(List.range (i+1)).all (mP (zs++[a,p,q]))=true:=by
 rw[an];intro j c;have c:=aJ.1 c;by_cases e:j<i
 .have:=an.1 h j (aJ.2 e)
  unfold mP at*;rw[kB (by omega),kB (by omega),kB (by omega)];exact this
 .obtain rfl:j=i:=by omega
  unfold mP;have e0:=mb (ys:=[a,p,q]) (j:=0) b;rw[mb b,mb b,show(zs++[a,p,q]).getD (j*3) 0=[a,p,q].getD 0 0 from e0];exact hf
def HY(n:Int):List Int:=[13000000+50000*n,n.tmod 7,1+n.tmod 5]
def sI(fs:List Int)(i:Nat):List Int:=((List.range i).map fun j=>HY (fs.getD j 0)).flatten
def Dk(fs i):sI fs (i+1)=sI fs i++HY (fs.getD i 0):=by
 unfold sI;rw[bV,aT,cG];simp
def Nm(fs:List Int)(w:World)(e:Ending)(w':World):Prop:=
 ∃a n c zs,zs=sI fs (min 3 fs.length)/\e=.returned (.slice a n c)/\jN (fun b=>w.heap.size<=b/\b<w'.heap.size) w' a n c zs/\(a=none->c=0)/\n<=3/\(List.range n).all (mP zs)=true/\Below w w w'
def sJ{z:Int}(h:0<=z)(k)(a:0<k):∃m,z.tmod k=m/\0<=m/\m<k:=⟨_,rfl,by rw[bu h];exact dq _ (by omega),by rw[bu h];exact da _ a⟩
def KN(x a n c w)(hf:BR (fun b=>b<w.heap.size) w a n c x.films):
 Calls prog 105 #[Rf x a n c] w (Nm x.films w):=by
 have E:=hf.1;have Hf:=O hf;have A:=O E;clear hf E;have F:Bj (w.alloc (.cells (pg x a n c).toArray 153)) w x a n c:=TL w _;have C:=(TH w w).alloc (aa _) (.cells (pg x a n c).toArray 153);have B:=O F;have u:=O C;clear F C;go_enter func105,ntmps105;go_upto_region 1 with fail;refine gI (fun wx=>Bj wx w x a n c/\Below w w wx) ⟨B,u⟩ ?_;clear B u;rintro w1 ⟨l,r⟩;have hl:=TK l;have s:=O l;have y:=O r;clear l r;go_wp2_with fail
 go_loopw [3,4] (fun v R wr=>∃(i:Nat)(zs:List Int),i<=3/\i<=n/\zs=sI x.films i/\R=.int .i64 (i:Int)/\wr.ownsRow (w+1) 67 3 v i (zs.map (Value.int .i64))/\(List.range i).all (mP zs)=true/\Bj wr w x a n c/\Below w w wr) (fun _ R _=>3-(intOf R).toNat)
 case atStart=>exact⟨0,[],by omega,by omega,rfl,rfl,⟨rfl,VR ⟨rfl,rfl⟩⟩,rfl,s,y⟩
 case round=>
  clear s y hl;obtain⟨i,zs,hi,a2,M,rfl,Q,hz,l,r⟩:=hrel;have q:=O M;clear M;have a4:wr.cell? ⟨w.heap.size,21,none⟩=some (.slice a n c):=(gA l 21).trans rfl;have hl:=TK l;have k:=Q.1;rw[aU]at k;have m:=O Q;have P:=O hz;have s:=O l;have p:=O r;have t:=O k;clear Q hz l r k;by_cases a1:i<n
  .by_cases a9:i<3
   .obtain⟨b1,off,rfl,hlt,x0,L,b0⟩:=(Hf.kept (gE p) (fun b h=>h)).2.2 i a1
    have H:=Dk x.films i;generalize x.films.getD i 0=z at*;have W:=O H;clear H;obtain⟨T,e7,a7,a8⟩:=sJ L 7 (by omega);obtain⟨S,e5,a5,a6⟩:=sJ L 5 (by omega);have a3:b1<wr.heap.size:=ab hlt p.size
    have D:w.heap.size+1<=wr.heap.size:=by omega
    go_wp2_with(refine je underlying68 Tryz.infoFilm3 rfl (by omega) (by omega) rfl (.tmp 23) (.tmp 33) rfl (w+1) _ i zs rfl (m.alloc _) (fun _=>True) _ 1 1 [13000000+50000*z,T,1+S] rfl (uC rfl rfl rfl) (fun e=>by cases e) (by omega) (by simp;omega) ?_;intro v' w4 j d;have o:=O j;have f:=O d;clear j d)
    have d:=f.out;have e1:=(jI (base:=w.heap.size+1) m d (b:=w.heap.size) (by omega) D).trans s;have e3:=jF p m d (by omega) D
    have N:zs++[13000000+50000*z,T,1+S]=sI x.films (i+1):=by rw[W,q];unfold HY;rw[e7,e5]
    have a0:=O N;clear N
    have K:oH (13000000+50000*z) T (1+S)=true:=by simp[oH,jr];omega
    have E1:=O e1;have E3:=O e3;have X:=O K;clear e1 e3 K d f
    go_roundw
    case rel=>exact⟨i+1,_,by omega,by omega,a0,by go_num,o,HU t P X,E1,E3⟩
    case measure=>simp[intOf];omega
   .go_wp2
    go_ret;obtain⟨a',c',rfl,h1,h2⟩:=lc m;exact⟨a',i,c',zs,by rw[q,A];congr 1;omega,rfl,jN.own m (fun g h1 h2=>⟨by omega,h2⟩),h1,by omega,P,p⟩
  .go_wp2
   go_ret;obtain⟨a',c',rfl,h1,h2⟩:=lc m;exact⟨a',i,c',zs,by rw[q,A];congr 1;omega,rfl,jN.own m (fun g h1 h2=>⟨by omega,h2⟩),h1,by omega,P,p⟩
def QT(n:Nat)(w:World)(q d:Value)(wr:World):Prop:=
 ∃(k:Nat)(a:Option Addr)(b:Nat)(zs:List Int),q=.int .i64 (-(k:Int))/\d=.slice a zs.length b/\(k:Int)<=9223372036854775808/\ip n=zs++ip k/\
  wr.ownsRow (w+1) 3 1 (.slice a zs.length b) zs.length (zs.map (Value.int .i64))/\
  wr.heap[w.heap.size]? =some (.cells #[false,oN] 221 (0,0))/\Below w w wr/\w.heap.size+1<=wr.heap.size
def KC(n:Nat)(w)(h0:0<n)(hn:(n:Int)<=9223372036854775808):
 Calls prog 130 #[.int .i64 (-(n:Int))] w (tb w (-(n:Int))):=by
 have l:=nu (-(n:Int)) (by omega) (by omega);rw[Int.natAbs_neg,aB]at l;have j:=O l;clear l
 have a8: -(n:Int) <0:=by omega
 go_enter func130,ntmps130;go_wp2_with fail
 go_loopw [0,3] (fun q d wr=>QT n w q d wr) (fun q _ _=>(intOf q).natAbs)
 case atStart=>exact⟨n,none,0,[],rfl,rfl,hn,by simp,World.ownsRow_nil _ _ _ _,TL _ _,(TH _ _).alloc (aa _) _,by simp⟩
 case round=>
  obtain⟨k,va,vc,zs,rfl,rfl,b3,hd,u,E,t,x⟩:=hrel;have D:=O hd;have h:=O u;have y:=O E;clear hd u E;by_cases H:k=0
  .subst H
   obtain⟨a4,a5,a6,a7⟩:=gQ y
   have r:ip n=zs:=by have:=D.out;simpa[jP]using this
   have S:=ur h;have a1:=O S;clear S;go_wp2_with fail;refine(nl true zs (-(n:Int)) _ _ _ _ a1 (by rw[<- r];exact iU n) (by rw[<- r];have:=j.out;omega) (by rw[<- r,iY,aI];have:=j.out;omega) (by rw[<- r];simp[iY])).mono ?_;rintro e w1 ⟨s,a,m,c,rfl,M,o,hf⟩;have a2:=(o.cell (p:=J (w.heap.size)) (by show w.heap.size<wr.heap.size;omega)).trans a4;have a3:=(o.cell (p:=⟨w.heap.size,1,none⟩) (by show w.heap.size<wr.heap.size;omega)).trans a5;have a9:=(o.frozen (p:=J (w.heap.size)) (by show w.heap.size<wr.heap.size;omega)).trans a6;have b0:=(o.frozen (p:=⟨w.heap.size,1,none⟩) (by show w.heap.size<wr.heap.size;omega)).trans a7;have a0:=O M;have Hf:=O hf;clear M hf r;go_wp2_with fail;refine ar (v:=.agg #[s,Z a m c]) ?_ rfl ?_
   .simp[results,results130,go_sem,a2,a3]
   .exact pF a0 (t.trans (o.mono t.size)) Hf w (by omega) (aa _) _ _
  .have L:0<k:=by omega
   have F:=D.out
   have b4:zs.length<=3:=by have:=j.out;rw[F,al]at this;omega
   have hx:ip k=[((k%1000000000:Nat):Int)]++ip (k/1000000000):=by rw[nU L];rfl
   have Hx:=O hx;clear hx;have ht:=xB (k:= -(k:Int)) (by omega);have hq:=xC (k:= -(k:Int)) (by omega);rw[show(- -(k:Int))%1000000000=((k%1000000000:Nat):Int)by omega]at ht;rw[show(- -(k:Int))/1000000000=((k/1000000000:Nat):Int)by omega]at hq
   have hb:((-(k:Int)) !=0)=true:=by simp;omega
   have hm:k/1000000000<k:=by omega
   have b6:k%1000000000<1000000000:=cx _ (by omega)
   have N:((k/1000000000:Nat):Int)<=9223372036854775808:=by omega
   have b5:((k/1000000000:Nat):Int)<=9223372037:=by omega
   have Hm:=O hm;clear hm F;generalize hR:k%1000000000=R at*;generalize hQ:k/1000000000=Q at*;have HR:=O hR;have HQ:=O hQ;clear hR hQ;generalize hK: -(k:Int)=K at*;have X:=O hK
   have b2:K<0:=by omega
   have b1: -9223372036854775808<=K:=by omega
   clear hK H L;by_cases P:R=0
   .subst P
    go_wp2_with(refine ju rfl (.tmp 16) (.tmp 18) 162 rfl underlying162 (w+1) _ _ zs rfl (h.alloc _) _ _ 1 1 [_] rfl (SL.one wr _ _) (by simp) (by omega) (by simp;omega) ?_)
    intro v' w1 g f;obtain⟨B,C,rfl⟩:=kx g;have A:=(jI (base:=w.heap.size+1) h f (b:=w.heap.size) (by omega) x).trans y;have T:=jF t h f (by omega) x;have W:=f.size;have z:=O A;have i:=O g;clear A g f;go_wp2_with fail
    go_roundw
    case rel=>
     refine⟨Q,B,C,zs++[0],rfl,by simp,N,(by rw[D,Hx,aC];try rfl),?_,z,T,?_⟩
     .simpa using i.out
     .simp at W⊢;omega
    case measure=>
     have:=Hm.out;have:=X.out;simp[intOf];omega
   .have b7:0<R:=by omega
    clear P
    go_wp2_with(refine ju rfl (.tmp 16) (.tmp 18) 162 rfl underlying162 (w+1) _ _ zs rfl (h.alloc _) _ _ 1 1 [_] rfl (SL.one wr _ _) (by simp) (by omega) (by simp;omega) ?_)
    intro v' w1 g f;obtain⟨B,C,rfl⟩:=kx g;have A:=(jI (base:=w.heap.size+1) h f (b:=w.heap.size) (by omega) x).trans y;have T:=jF t h f (by omega) x;have W:=f.size;have z:=O A;have i:=O g;clear A g f;go_wp2_with fail
    go_roundw
    case rel=>
     refine⟨Q,B,C,zs++[(R:Int)],rfl,by simp,N,(by rw[D,Hx,aC];try rfl),?_,z,T,?_⟩
     .simpa using i.out
     .simp at W⊢;omega
    case measure=>
     have:=Hm.out;have:=X.out;simp[intOf];omega
def oT(z:Int)(w)(h1: -9223372036854775808<=z)(h2:z<=9223372036854775807):
 Calls prog 130 #[z] w (tb w z):=by
 by_cases h:z<0
 .have:=KC z.natAbs w (by omega) (by omega)
  rw[show(-(z.natAbs:Int))=z by omega]at this;exact this
 .have:=Ku z.natAbs w (by omega)
  rw[show((z.natAbs:Int))=z by omega]at this;exact this
structure QL (N:Nat) (w:World) (s:Bool) (a:Option Addr) (n c:Nat) (b:Option Addr) (m d:Nat) (r:Rat):Prop where
 n:LG N w s a n c r.num
 d:LG N w false b m d ((r.den:Nat):Int)
def QL.go{w w':World}{s a n c b m d r}(h:QL w w s a n c b m d r)(e:Below w w w'):QL w' w' s a n c b m d r:=⟨h.n.go e,h.d.go e⟩
def Sz(k:Nat)(r:Rat):Prop:=r.num.natAbs<1000000000^k/\r.den<1000000000^k
def Sz.den{k r}(h:Sz k r):(ip r.den).length<=k:=iB h.2
def QL.m{N w s a n c b m d r}(h:QL N w s a n c b m d r){k}(e:Sz k r):m<=k:=by
 have:=mW h.d;rw[aB]at this;have:=e.den;omega
def mF(r s a b n m c d)(w:World)(h:QL w w s a n c b m d r)(hm:m<=599):
 Calls prog 192 #[.agg #[s,Z a n c,false,Z b m d]] w (iZ w (.bool true)):=by
 have D:=(TH w w).alloc (aa _) (.cells #[s,Z a n c,false,Z b m d] 243);have k:pO (w.alloc (.cells #[s,Z a n c,false,Z b m d] 243)) w s a n c false b m d:=TL w _
 have a0:0<m:=by
  have:=mW h.d;rw[aB]at this
  obtain e|e:=cM m
  .rw[e]at this
   exact absurd (jC.1 this.symm) r.den_nz
  .exact e
 obtain⟨f,M⟩:∃f,Nat.gcd r.num.natAbs ((r.den:Nat):Int).natAbs=f:=⟨_,rfl⟩
 have C:(f:Int)=1:=by rw[<- M];exact ai Int.ofNat r.reduced
 have N:=O C;clear C;have H:=O h;have z:=O D;have j:=O k;have X:=O M;clear h D k M;go_enter func192,ntmps192;go_upto_region 1 with fail;refine jp (fun W=>pO W w s a n c false b m d/\Below w w W) ⟨j,z⟩ ?_;clear j z;rintro w1 ⟨k,S⟩;obtain⟨c0,c1,c2,c3⟩:=gL k;have x:=O S;have j:=O k;clear S k;go_wp2_with fail;refine(rN s r.num a n c _ (by exact H.n.go x)).mono ?_;rintro e w2 ⟨rfl,p⟩;have u:=(p.block w (TK j)).trans j;obtain⟨d0,d1,d2,d3⟩:=gL u;have i:=O (x.trans (p.mono x.size));have o:=O u;clear p u c0 c1 c2 c3 j x;go_wp2_with fail;refine(rN false ((r.den:Nat):Int) b m d _ (by exact H.d.go i)).mono ?_;rintro e w3 ⟨rfl,q⟩;have v:=(q.block w (TK o)).trans o;obtain⟨e0,e1,e2,e3⟩:=gL v;have g:=O (i.trans (q.mono i.size));have R:=O v;clear q v d0 d1 d2 d3 o i;go_wp2_with fail;refine(vb s false r.num ((r.den:Nat):Int) a b n m c d _ (by exact H.n.go g) (by exact H.d.go g) hm f X).mono ?_;rintro e w4 ⟨s4,a4,n4,c4,rfl,K,E,_⟩;have B:=O K;have l:=O (g.trans (E.mono g.size));clear K E e0 e1 e2 e3 g R;go_wp2_with fail;refine(oT 1 _ (by omega) (by omega)).mono ?_;rintro e w5 ⟨s5,a5,n5,c5,rfl,L,t,_⟩;have Q:=O L;have y:=O (B.go t);have A:=O (l.trans (t.mono l.size));clear L t B l;go_wp2_with fail;refine(EB s4 s5 (f:Int) 1 a4 a5 n4 n5 c4 c5 _ (by exact y) (by exact Q)).mono ?_;rintro e w6 ⟨T,F⟩;rw[aP N.out]at T;subst T;have P:=O (A.trans (F.mono A.size));clear F;go_wp2_with fail;go_ret;exact⟨rfl,P⟩
def rP(z:Int):Bool:=decide (-9223372036854775808<=z/\z<=9223372036854775807)
def Re(w:World)(z:Int)(a:Ending)(w':World):Prop:=a=.returned (.tuple #[.int .i64 (if rP z then z else 0),.int .i64 (if rP z then 0 else 6)])/\Below w w w'
def PD{x y}:decide (oG x y<0)=decide (x<y):=by
 unfold oG;by_cases h:x<y
 .simp[h]
 .rw[aj h,aw h]
  by_cases h2:y<x<;>simp[h2]
def PE{x y}:decide (0<oG x y)=decide (y<x):=by
 unfold oG;by_cases h:x<y
 .rw[aq h,aw (by omega:¬y<x)];rfl
 .rw[aj h]
  by_cases h2:y<x<;>simp[h2]
def zL(s:Bool)(u k:Nat):Int:=if s then -((u/1000000000^k:Nat):Int)else((u/1000000000^k:Nat):Int)
def Nl(s u):zL s u (ip u).length=0:=by
 unfold zL;rw[eO (sb u)];cases s<;>rfl
def KM(u j):u/1000000000^j=u/1000000000^(j+1)*1000000000+u/1000000000^j%1000000000:=by
 rw[bM,<- eX];have:=dc (u/1000000000^j) 1000000000;omega
def zM(s z a n c)(w:World)(h:LG w w s a n c z):
 Calls prog 159 #[.agg #[s,Z a n c]] w (Re w z):=by
 have r:=TL w (.cells #[s,Z a n c] 221);have b1:Below w w (w.alloc (.cells #[s,Z a n c] 221)):=(TH _ _).alloc (aa _) _;have W:=h.go b1;have y:=O r;have Hs:=O h.1;have a5:=O b1;have t:=O W;clear h r b1 W;go_enter func159,ntmps159;go_wp2_with fail;refine(rN s z a n c _ t).mono ?_;rintro e w1 ⟨rfl,N⟩;have X:=t.go N;have B:=(N.block w (by simp)).trans y;have H:=O X;have a8:=O B;have a6:=O (a5.trans (N.mono a5.size));clear X B N;go_wp2_with fail;refine(oT (-9223372036854775808) _ (by omega) (by omega)).mono ?_;rintro e w2 ⟨s2,a2,n2,c2,rfl,c1,P,-⟩;have a0:=H.go P;have c9:=(P.block w (TK a8)).trans a8;have b6:=O c1;have K:=O a0;have M:=O c9;have a7:=O (a6.trans (P.mono a6.size));clear c1 a0 c9 P;go_wp2_with fail;refine(oT 9223372036854775807 _ (by omega) (by omega)).mono ?_;rintro e C ⟨s3,a3,n3,c3,rfl,c4,Q,-⟩;have l:=Q.trans ((iH (w:=C) (.cells #[s2,Z a2 n2 c2] 221) (.cells #[s3,Z a3 n3 c3] 221)).mono Q.size);have a1:=K.go l;have S:=b6.go l;have T:=c4.go (iH (w:=C) (.cells #[s2,Z a2 n2 c2] 221) (.cells #[s3,Z a3 n3 c3] 221));obtain⟨e4,e5⟩:=iN C (.cells #[s2,Z a2 n2 c2] 221) (.cells #[s3,Z a3 n3 c3] 221);have d0:=a7.trans (l.mono a7.size);have b9:w.heap.size<C.heap.size:=ab (TK M) Q.size;have m:((C.alloc (.cells #[s2,Z a2 n2 c2] 221)).alloc (.cells #[s3,Z a3 n3 c3] 221)).heap[w.heap.size]? =some (.cells #[s,Z a n c] 221 (0,0)):=(l.block w (TK M)).trans M;obtain⟨p1,p2,-,-⟩:=gQ m;obtain⟨p3,p4,-,-⟩:=gQ e4;obtain⟨p5,p6,-,-⟩:=gQ e5;have u:=O a1;have E:=O S;have F:=O T;have a9:=O d0;have q:=O m;have b5:=O b9;have E5:=O e5;clear a1 S T d0 m l c4 Q b9 e4 e5 K M b6 a7 H a8 a6 t a5 y;go_wp2_with fail;refine(uy s s2 z (-9223372036854775808) a a2 n n2 c c2 _ u E).mono ?_;rintro e w4 ⟨rfl,p⟩;have b2:=(p.block w (by have:=b5.out;simp;omega)).trans q;have b8:=(p.block (C+1) (by simp)).trans E5;obtain⟨q1,q2,-,-⟩:=gQ b2;obtain⟨q5,q6,-,-⟩:=gQ b8;have x:=O (u.go p);have b4:=O (F.go p);have b0:=O (a9.trans (p.mono a9.size));have d3:=O b2;have d2:=O (ab (show w.heap.size<((C.alloc (.cells #[s2,Z a2 n2 c2] 221)).alloc (.cells #[s3,Z a3 n3 c3] 221)).heap.size by have:=b5.out;simp;omega) p.size);clear p b2 b8 p1 p2 p3 p4 p5 p6 u E F a9 q;have c7:=@PD z (-9223372036854775808);by_cases g:z< -9223372036854775808
 .rw[aP g]at c7
  have o:=O g;clear g;go_wp2_with fail;go_ret2;have hf:rP z=false:=aw (by have:=o.out;omega);refine⟨?_,b0⟩;rw[hf];rfl
 .rw[aw g]at c7
  have o:=O g;clear g;go_wp2_with fail;refine(uy s s3 z 9223372036854775807 a a3 n n3 c c3 _ x b4).mono ?_;rintro e w5 ⟨rfl,R⟩;have c0:=(R.block w d2).trans d3;obtain⟨r1,r2,-,-⟩:=gQ c0;have d1:=b0.trans (R.mono b0.size);have a4:=(x.go R).2.1;have b7:=O d1;have L:=O a4;clear R c0 d1 a4 q1 q2 q5 q6;have c8:=@PE z 9223372036854775807;by_cases d:9223372036854775807<z
  .rw[aP d]at c8
   have f:=O d;clear d;go_wp2_with fail;go_ret2;have hf:rP z=false:=aw (by have:=f.out;omega);refine⟨?_,b7⟩;rw[hf];rfl
  .rw[aw d]at c8
   have hf:rP z=true:=aP (by have:=o.out;omega);have f:=O d;clear d;have c5:=L.len;have d4:=O c5;clear c5;have d8:=x.2.2;have Hf:=O hf;clear hf;go_wp2_with fail
   go_loop [6,7] (fun v i=>∃k:Nat,k<=n/\i=.int .i64 ((k:Int)-1)/\v=.int .i64 (zL s z.natAbs k)) (fun _ i=>(intOf i+1).toNat)
   case atStart=>exact⟨n,aa _,rfl,by rw[d4,Nl]⟩
   case round=>
    obtain⟨k,hk,rfl,rfl⟩:=hrel;by_cases d6:k=0
    .subst d6
     rw[show((0:Nat):Int)-1= -1 from rfl]
     have hv:zL s z.natAbs 0=z:=by
      unfold zL;rw[dT,Nat.div_one,Hs]
      by_cases h:z<0<;>simp[h] <;>omega
     rw[hv];clear hv;go_wp2_with fail;go_ret2;refine⟨?_,b7⟩;rw[Hf];rfl
    .obtain⟨j,rfl⟩:∃j,k=j+1:=⟨k-1,by omega⟩
     rw[show((j+1:Nat):Int)-1=(j:Int)by omega];obtain⟨b,off,rfl,hb,hc⟩:=L.at (by omega:0<n);have d5:=hc j (by omega);rw[Ca]at d5;have c6:=KM z.natAbs j;have d7:z.natAbs/1000000000^j<=z.natAbs:=dp _ _
     have d9:z.natAbs<=9223372036854775808:=by have:=o.out;have:=f.out;omega
     have b3:s=false->z.natAbs<=9223372036854775807:=by
      intro hs;have:=Hs.out;have:=f.out;subst hs;have:=of_decide_eq_false this.symm;omega
     have B:zL s z.natAbs (j+1)=if s then -((z.natAbs/1000000000^(j+1):Nat):Int)else((z.natAbs/1000000000^(j+1):Nat):Int):=rfl
     have r:zL s z.natAbs j=if s then -((z.natAbs/1000000000^j:Nat):Int)else((z.natAbs/1000000000^j:Nat):Int):=rfl
     rw[B];clear B hc;generalize z.natAbs/1000000000^j%1000000000=D at*;generalize z.natAbs/1000000000^(j+1)=A at*;rw[c6]at r d7;have y:=O r;clear r c6 hb
     cases s with
     |false=>
      have e0:=b3 rfl
      have hA:(A:Int)*1000000000+D<=9223372036854775807:=by omega
      clear b3;simp only[bC,de];go_wp2_with fail
      go_round
      case rel=>
       refine⟨j,by omega,rfl,?_⟩;rw[y];simp only[bC,de];rw[et,bW];rfl
      case measure=>simp[intOf]
     |true=>
      have hA:(A:Int)*1000000000+D<=9223372036854775808:=by omega
      clear b3;simp only[bX];go_wp2_with fail
      go_round
      case rel=>
       refine⟨j,by omega,rfl,?_⟩;rw[y];simp only[bX];congr 1;omega
      case measure=>simp[intOf]
def zF(s t:Bool)(a b n m c d w)(B:n<=600)(A:m<=600):
 Calls prog 233 #[.agg #[s,Z a n c,t,Z b m d]] w (iZ w (.tuple #[.agg #[s,Z a n c,t,Z b m d],oZ])):=by
 obtain⟨k,l⟩:=iN w (.cells #[s,Z a n c,t,Z b m d] 243) (.cells #[false,oN,false,oN] 243);have e:=iH (w:=w) (.cells #[s,Z a n c,t,Z b m d] 243) (.cells #[false,oN,false,oN] 243);have i:=O k;have j:=O l;have f:=O e;clear k l e;go_enter func233,ntmps233;go_upto_region 1 with fail;refine jp (fun h=>pO h w s a n c t b m d/\pO h (w+1) false none 0 0 false none 0 0/\Below w w h) ⟨i,j,f⟩ ?_;clear i j f;rintro C ⟨h0,h1,e⟩;obtain⟨c0,c1,c2,c3⟩:=gL h0;obtain⟨r,u,x,y⟩:=gL h1;have f0:=gD h1 0;have f1:=gD h1 1;have z:=gD h1 2;have f3:=gD h1 3;have o:=O h1;have f:=O e;clear h0 h1 e;go_wp2_with fail;have g:=kl (s':=s) (a':=a) (n':=n) (c':=c) (t':=t) (b':=b) (m':=m) (d':=d) o;obtain⟨k0,k1,p,q⟩:=gL g;refine ar (v:=.tuple #[.agg #[s,Z a n c,t,Z b m d],oZ]) ?_ rfl ?_
 .simp[results,results233,go_sem,k0,k1,p,q]
 .exact⟨rfl,iR f (by omega)⟩
def M0{k l r s}(h1:Sz k r)(h2:Sz l s):(r.num*s.num).natAbs<1000000000^(k+l)/\r.den*s.den<1000000000^(k+l):=by
 rw[eG,dm];exact⟨cU h1.1 h2.1,cU h1.2 h2.2⟩
def GU(r s):mkRat (r.num*s.num) (r.den*s.den)=r*s:=by
 rw[Rat.mul_def,fX,eJ (Nat.mul_ne_zero r.den_nz s.den_nz)]
def KD(g h k1 Q s t a b a' b' n m c d n' m' c' d')(w:World)(h1:QL w w s a n c b m d g)(h2:QL w w t a' n' c' b' m' d' h)(z1:Sz k1 g)(z2:Sz Q h)(hk:k1+Q<=599):
 Calls prog 234 #[.agg #[s,Z a n c,false,Z b m d],.agg #[t,Z a' n' c',false,Z b' m' d']] w (GO w (g*h)):=by
 obtain⟨zn,zd⟩:=M0 z1 z2;have ln:(ip (g.num*h.num).natAbs).length<=599:=af (iB zn) hk;have ld:(ip (g.den*h.den)).length<=599:=af (iB zd) hk;have b3:0<g.den*h.den:=dZ (bq g.den_nz) (bq h.den_nz);have a8:=GU g h;generalize g*h=R at*;obtain⟨i0,i1,i2⟩:=jh w (.cells #[s,Z a n c,false,Z b m d] 243) (.cells #[t,Z a' n' c',false,Z b' m' d'] 243) (.cells #[false,oN,false,oN] 243);have B:=oF w (.cells #[s,Z a n c,false,Z b m d] 243) (.cells #[t,Z a' n' c',false,Z b' m' d'] 243) (.cells #[false,oN,false,oN] 243);have I0:=O i0;have I1:=O i1;have I2:=O i2;have o:=O B;have X:=O h1;have a0:=O h2;have b0:=O ln;have a6:=O ld;have b1:=O a8;clear i0 i1 i2 B h1 h2 zn zd ln ld a8;go_enter func234,ntmps234;go_upto_region 1 with fail;refine jp (fun W=>pO W w s a n c false b m d/\pO W (w+1) t a' n' c' false b' m' d'/\pO W (w+2) false none 0 0 false none 0 0/\Below w w W) ⟨I0,I1,I2,o⟩ ?_;clear I0 I1 I2 o;rintro w1 ⟨h0,h1,h2,B⟩;have l0:=TK h0;have l1:=TK h1;have l2:=TK h2;obtain⟨c0,c1,c2,c3⟩:=gL h0;obtain⟨e0,e1,e2,e3⟩:=gL h1;have H:=O h2;have o:=O B;clear h0 h1 h2 B;refine gS 11 [(0,true),(1,true),(2,true),(3,true),(5,true),(6,true),(7,true),(8,true),(4,false),(9,false),(10,false)] (by kernel_rfl) (by kernel_rfl) ?_
 iterate 8
  refine gU (v:=?_) ?_ ?_;rotate_left
  .intro y q
   have x0:=(q.cell (p:=J (w.heap.size)) l0).trans c0;have x1:=(q.cell (p:=⟨w.heap.size,1,none⟩) l0).trans c1;have x2:=(q.cell (p:=⟨w.heap.size,2,none⟩) l0).trans c2;have x3:=(q.cell (p:=⟨w.heap.size,3,none⟩) l0).trans c3;have y0:=(q.cell (p:=J (w+1)) l1).trans e0;have y1:=(q.cell (p:=⟨w.heap.size+1,1,none⟩) l1).trans e1;have y2:=(q.cell (p:=⟨w.heap.size+1,2,none⟩) l1).trans e2;have y3:=(q.cell (p:=⟨w.heap.size+1,3,none⟩) l1).trans e3;go_simp;with_reducible rfl
  try simp only[V]
 clear c0 c1 c2 c3 e0 e1 e2 e3;refine gP (fun A i=>?_);go_simp;refine(qA s t g.num h.num a a' n n' c c' w1.drew (by exact X.n.go (oP o)) (by exact a0.n.go (oP o)) (by have:=b0.out;omega)).mono ?_;rintro e w2 ⟨s2,a2,n2,c2,rfl,a7,C,f2⟩;refine i _ _ C ?_;clear i A;have r:Below w1 w1 w2:=gJ (k:=1) C;have a1:=O a7;have f:=O r;have F2:=O f2;clear a7 C r f2;(try simp only[V]);refine gP (fun A i=>?_);go_simp;refine(qA false false ((g.den:Nat):Int) ((h.den:Nat):Int) b b' m m' d d' w2 (by exact(X.d.go o).go f) (by exact(a0.d.go o).go f) (by rw[<- bW,aB];have:=a6.out;omega)).mono ?_;rintro e w3 ⟨s3,a3,n3,c3,rfl,x,u,f3⟩;refine i _ _ u ?_;clear i A;rw[<- bW]at x
 have b5:s3=false:=by rw[x.1];exact aw (Int.not_lt.2 (dP _))
 subst b5;have L:=O (a1.go u);have a5:=O x;have j:=O (f.trans (u.mono f.size));have P:=f.size;have F3:=O (f3.mono P);clear x u f3 a1 f;(try simp only[V]);refine gP (fun A i=>?_);go_simp;refine(sD s2 (g.num*h.num) (g.den*h.den) a2 a3 n2 n3 c2 c3 w3 (by exact L) (by exact a5) b3 (by have:=mW a5;rw[aB]at this;have:=a6.out;omega)).mono ?_;rintro e w4 ⟨s4,M,T,c4,b4,S,d4,rfl,F,E,D,f4,g4⟩;refine i _ _ D ?_;clear i A;rw[b1]at F E;have l:=j.trans (D.mono j.size);have h2:=(l.block _ l2).trans H;have z:=j.size;have F4:=O (f4.mono z);have G4:=O (g4.mono z);have b2:=O F;have a9:=O E;have K:=O l;clear F E D l f4 g4 H;obtain⟨d0,d1,d2,d3⟩:=gL h2;have f0:=gD h2 0;have f1:=gD h2 1;have f2:=gD h2 2;have f3:=gD h2 3;have H:=O h2;clear h2;(try simp only[V]);refine iu rfl ?_;go_wp2_with fail;have N:=kl (s':=s4) (a':=M) (n':=T) (c':=c4) (t':=false) (b':=b4) (m':=S) (d':=d4) H;obtain⟨k0,k1,Q,k3⟩:=gL N;refine ar (v:=.agg #[s4,Z M T c4,false,Z b4 S d4]) ?_ rfl ?_
 .simp[results,results234,go_sem,k0,k1,Q,k3]
 .have o4:mx w (w+3) M T:=mx.ofFresh (F4.mono (by omega))
  have o5:mx w (w+3) b4 S:=mx.ofFresh (G4.mono (by omega));exact⟨s4,M,T,c4,b4,S,d4,rfl,qY b2 o4 (show w.heap.size<=w.heap.size+2 by omega) (by omega),qY a9 o5 (show w.heap.size<=w.heap.size+2 by omega) (by omega),iR (o.trans (K.mono (by omega))) (by omega),F4.mono (by omega),G4.mono (by omega)⟩
def Fi(l:List UInt8)(d:Nat):Int:=match li l with
 |none=>0
 |some p=>if p<=d/\rP (wg l*10^(d-p))=true then wg l*10^(d-p)else 0
def Fj(l:List UInt8)(d:Nat):Int:=match li l with
 |none=>5
 |some p=>if p<=d then(if rP (wg l*10^(d-p))=true then 0 else 6)else 5
def Ta:Nat:=5000
attribute [irreducible] Ta
def Py(xs ys zs:List Int)(i:Nat)(a:Int):Prop:=
 zs.length=i/\mv zs/\val zs=val (xs.take i)-val (ys.take i)+a*1000000000^i/\0<=a/\a<=1
def Py.less{xs ys zs i c}(h:Py xs ys zs i c)(d:mv xs)(e:mv ys)(g:xs.getD i 0-ys.getD i 0-c<0):
 Py xs ys (zs++[xs.getD i 0-ys.getD i 0-c+1000000000]) (i+1) 1:=by
 obtain⟨h1,h2,h3,f,h5⟩:=h;have a:=d.all i;have b:=e.all i;refine⟨by simp[h1],h2.append (mv.cons (by omega) mv.nil),?_,by omega,by omega⟩;rw[oD,h1,jn,jn,h3];simp only[val];generalize xs.getD i 0=x at*;generalize ys.getD i 0=y at*;rw[dF,fL];generalize(1000000000:Int)^i=p;rw[eh,eh,fM,fM,bN x p,bN y p,bN c p];omega
def Py.more{xs ys zs i c}(h:Py xs ys zs i c)(d:mv xs)(e:mv ys)(g:0<=xs.getD i 0-ys.getD i 0-c):
 Py xs ys (zs++[xs.getD i 0-ys.getD i 0-c]) (i+1) 0:=by
 obtain⟨h1,h2,h3,f,h5⟩:=h;have a:=d.all i;have b:=e.all i;refine⟨by simp[h1],h2.append (mv.cons (by omega) mv.nil),?_,by omega,by omega⟩;rw[oD,h1,jn,jn,h3];simp only[val];generalize xs.getD i 0=x at*;generalize ys.getD i 0=y at*;rw[Int.zero_mul];generalize(1000000000:Int)^i=p;rw[eh,fM,fM,bN x p,bN y p,bN c p];omega
def Py.last{xs ys zs a}(h:Py xs ys zs xs.length a)(d:ys.length<=xs.length)(e:val ys<=val xs):val zs=val xs-val ys:=by
 obtain⟨h1,h2,h3,f,h5⟩:=h;rw[bf,aM d]at h3;have c:=rZ h2;rw[h1]at c;by_cases b:a=0
 .rw[b]at h3;omega
 .have:a=1:=by omega
  rw[this,fL]at h3;omega
def Rx(w:World)(l:List UInt8)(d:Nat)(a:Ending)(w':World):Prop:=a=.returned (.tuple #[.int .i64 (Fi l d),.int .i64 (Fj l d)])/\Below w w w'
structure GW (w:World):Prop where
 m:∃m,w.cell? (J 5)=some (.int .i64 m)
 tab:Lib.TabIs prog w "internal/strconv.uint64pow10" .u64 Lib.pow10Tab
 rng:∃tp p,w.var? prog "strconv.ErrRange" =some #[.iface tp p]
 sz:14<=w.heap.size
def Tryz.gnTab:((prog.globalNamed "internal/strconv.uint64pow10").any fun g=>decide (g<14))=true:=by kernel_rfl
def Tryz.gnRng:((prog.globalNamed "strconv.ErrRange").any fun g=>decide (g<14))=true:=by kernel_rfl
def Fk{w w':World}(nm)(a:((prog.globalNamed nm).any fun g=>decide (g<14))=true)(h:∀b,b<14->w'.heap[b]? =w.heap[b]?):w'.var? prog nm=w.var? prog nm:=by
 unfold World.var?
 cases hn:prog.globalNamed nm with
 |none=>rfl
 |some g=>
  rw[hn]at a;simp only[eZ,aD]at a;simp only[aO,h g a]
def GW.kept{w w'}(h:GW w)(a:∀b,b<14->w'.heap[b]? =w.heap[b]?)(f:14<=w'.heap.size):GW w':=by
 obtain⟨⟨m,d⟩,c,⟨g,p,e⟩,_⟩:=h;refine⟨⟨m,?_⟩,?_,⟨g,p,?_⟩,f⟩
 .rw[<- d];simp only[World.cell?,a 5 (by omega)]
 .unfold Lib.TabIs at c⊢;rw[Fk _ Tryz.gnTab a];exact c
 .rw[Fk _ Tryz.gnRng a];exact e
def GW.below{w w'}(h:GW w)(a:Below w w w'):GW w':=h.kept (fun b hlt=>a.block b (ab hlt h.sz)) (af h.sz a.size)
def GW.of{B w w'}(h:GW w)(a:Below B w w')(c:14<=B):GW w':=h.kept (fun b hlt=>a.block b (by omega)) (af h.sz a.size)
def lE(l):(bs l).size=l.length:=rfl
def tX(l p w):Calls prog 169 #[.string (bs l),.string (bs p)] w fun e w'=>e=.returned (.string (bs (Lib.trimPrefix l p)))/\w=w':=
 (Tryz.strings_TrimPrefix (bs l) (bs p) w).mono fun _ _ ⟨h1,h2⟩=>⟨h1,h2.symm⟩
def Bl(l c w)(a:c.toNat<128)(b:l.length<=1000000):Calls prog 171 #[.string (bs l),.string ⟨#[c]⟩] w fun e w'=>e=.returned (.string (bs (Lib.trimRightB l c)))/\w=w':=
 (Tryz.strings_TrimRight_one (bs l) c a w (by rw[lE];omega)).mono fun _ _ ⟨h1,h2⟩=>⟨h1,h2.symm⟩
def zY(l)(c:Nat)(w)(a:c<=1000000)(b:l.length<=1000000):Calls prog 25 #[.string (bs l),.int .i64 (c:Int)] w (iZ w (.string (bs (Lib.repeatL l c)))):=
 (Tryz.strings_Repeat (bs l) c w (by omega) (by rw[lE];exact af (cB b a) (by omega)))
def Ny(n:Int)(w)(h0: -9223372036854775808<=n)(h1:n<=9223372036854775807)(a:GW w):Calls prog 128 #[n] w (iZ w (.string (bs (Lib.itoa n)))):=by
 refine(Tryz.strconv_Itoa n h0 h1 w a.tab).mono ?_;rintro e w' ⟨rfl,k,os,rfl⟩;exact⟨rfl,Lib.below_grow _ _ (aa _) k os⟩
def ji(l:List (List UInt8)):List Value:=l.map fun s=>.string (bs s)
def Du(a b):ji (a++b)=ji a++ji b:=aT
def xo(l):(ji l).length=l.length:=aU _
def Tryz.infoStr:(prog.info? 9).map (fun i=>(i.zero,i.size,i.bytes))=some (some (.string {data:=#[]}),1,16):=by kernel_rfl
def tZ{w:World}{base a n c l}(h:w.ownsRow base 9 1 (.slice a n c) n (ji l))(o:0<l.length):
 ∃g,a=some ⟨g,0,none⟩/\base<=g/\g<w.heap.size/\n=l.length/\n<=c/\ ∀(j:Nat) x,(l.map bs)[j]? =some x->w.cell? ⟨g,0+j,none⟩=some (.string x):=by
 have m:=h.1;rw[xo]at m
 rcases(mz h).2 with⟨e,h0⟩|⟨g,cap,e,k,f,b⟩
 .omega
 .cases e
  refine⟨g,rfl,k,b.lt,by omega,f,fun j x d=>?_⟩;rw[aR]at d
  cases hlj:l[j]? with
  |none=>rw[hlj]at d;cases d
  |some s=>
   rw[hlj]at d;cases d;have i:=(TG.1 hlj).1;rw[aV,b.cell (j:=j) (by rw[xo];exact i)];simp only[ji,List.getElem_map];rw[(TG.1 hlj).2]
def ua(w:World)(a:Option Addr)(n c:Nat)(ws:List (List UInt8))(B:Nat):Prop:=
 ws.length=n/\n<=c/\(0<n-> ∃g off,a=some ⟨g,off,none⟩/\g<B/\ ∀i x,ws[i]? =some x->w.cell? ⟨g,off+i,none⟩=some (.string (bs x)))
def ua.kept{w w' a n c B b ws}(h:ua w a n c ws B)(j:∀k,k<B->w'.heap[k]? =w.heap[k]?)(m:B<=b):ua w' a n c ws b:=by
 refine⟨h.1,h.2.1,fun h0=>?_⟩;obtain⟨g,off,e,f,d⟩:=h.2.2 h0;refine⟨g,off,e,by omega,fun i x l=>?_⟩;rw[<- d i x l];simp only[World.cell?,j g f]
def uE:∀(l u:List UInt8),∀s∈iA u l,s≠[]
 |[],u,s,h=>by
  rw[iA]at h;split at h
  .cases h
  .rw[aK]at h;subst h;assumption
 |b::l,u,s,h=>by
  rw[iA]at h;split at h
  .split at h
   .exact uE l _ s h
   .obtain rfl|h:=aS.1 h
    .assumption
    .exact uE l _ s h
  .exact uE l _ s h
def sN:∀(l u:List UInt8),∀s∈iA u l,s.length<=u.length+l.length
 |[],u,s,h=>by
  rw[iA]at h;split at h
  .cases h
  .rw[aK]at h;subst h;simp
 |b::l,u,s,h=>by
  rw[iA]at h;rw[aH];split at h
  .split at h
   .have:=sN l _ s h;simp at this;omega
   .obtain rfl|h:=aS.1 h
    .omega
    .have:=sN l _ s h;simp at this;omega
  .have:=sN l _ s h;simp at this;omega
def pH:∀(l u:List UInt8),(iA u l).length<=l.length+1
 |[],u=>by
  rw[iA];split<;>simp
 |b::l,u=>by
  rw[iA,aH];split
  .split
   .have:=pH l [];omega
   .have:=pH l [];rw[aH];omega
  .have:=pH l (u++[b]);omega
def uF:∀(l u:List UInt8),∀s∈io u l,s.length<=u.length+l.length
 |[],u,s,h=>by
  rw[io,aK]at h;subst h;simp
 |b::l,u,s,h=>by
  rw[io]at h;rw[aH];split at h
  .obtain rfl|h:=aS.1 h
   .omega
   .have:=uF l _ s h;simp at this;omega
  .have:=uF l _ s h;simp at this;omega
def qI:∀(l u:List UInt8),(io u l).length<=l.length+1
 |[],u=>by simp[io]
 |b::l,u=>by
  rw[io,aH];split
  .have:=qI l [];rw[aH];omega
  .have:=qI l (u++[b]);omega
def Iq(l w)(a:GW w)(c:l.length<=1000000):Calls prog 27 #[.string (bs l),.string (bs [10])] w fun e w'=>
 e=.returned (.slice (J (w.heap.size)) (io [] l).length (io [] l).length)/\w'=w.alloc (.cells (ji (io [] l)).toArray 9):=by
 obtain⟨m,b⟩:=a.m;refine(Tryz.strings_Split (bs l) (bs [10]) m w (by rw[lE];omega) b (by decide)).mono ?_;rintro e w' ⟨rfl,rfl⟩;have h1:=Dr l;have h2:=xX l.length l (aa _);rw[h1,show Lib.countB (bs l) (bs [10])=Lib.count l [10]from rfl,<- h2,dD];exact⟨rfl,rfl⟩
def Fo(x:Nat)(w)(d:x<=1114111):Calls prog 89 #[.int .i32 (x:Int)] w fun e w'=>e=.returned (.bool (Fm x))/\w=w':=by
 by_cases h1:x=32
 .subst h1
  go_enter func89,ntmps89;go_wp2_with fail;go_ret;exact⟨rfl,rfl⟩
 .have c:((x:Int)==32)=false:=by rw[ak];omega
  have a:Fm x=false:=by unfold Fm;rw[ak];exact h1
  have b:=O a;clear a h1;go_enter func89,ntmps89;go_wp2_with fail;go_ret;exact⟨by rw[b];rfl,rfl⟩
def Ir(l w)(m:l.length<=1000000):Calls prog 88 #[.string (bs l),.func (.func 89) #[] #[]] w fun e w'=>
 ∃A,e=.returned (.slice (J A) (iA [] l).length (iA [] l).length)/\ua w' (J A) (iA [] l).length (iA [] l).length (iA [] l) w'/\Below w w w':=by
 refine(Tryz.strings_FieldsFunc_grows 89 #[] (fun args w=>by kernel_rfl) Fm (bs l) w (by rw[lE];omega) ?_).mono ?_
 .intro W x b _
  exact(Fo x W b).mono fun e w' h=>⟨h.1,h.2▸TH _ _⟩
 .rintro e w' ⟨A,rfl,k,a,j⟩
  rw[Bm,aU,dD]at*;refine⟨A,rfl,⟨rfl,aa _,fun h0=>?_⟩,j⟩;obtain⟨g,c,-,d,-,-,f⟩:=tZ (l:=iA [] l) a h0;cases c;refine⟨A,0,rfl,d,fun i x b=>?_⟩;have:=f i (bs x) (by rw[aR,b];rfl);exact this
def nN:List (List UInt8)->List UInt8
 |[]=>[]
 |[x]=>x
 |x::y::l=>x++32::nN (y::l)
def zZ:∀(l:List (List UInt8)),Lib.join l [32]=nN l
 |[]=>rfl
 |[x]=>by rw[Lib.join_one];rfl
 |x::y::l=>by
  have h:=zZ (y::l);rw[Lib.join_cons]at h;rw[Lib.join_cons,nN,<- h];simp[Lib.joinTail]

def PQ(n):Lib.itoa n=De n:=by
 unfold Lib.itoa De;by_cases h:n<0
 .rw[aq h,aq h];rfl
 .rw[aj h,aj h,show n.toNat=n.natAbs by omega];rfl
def Bn(l):Lib.trimRightB l 48=mQ l:=rfl
def Af(c):Lib.repeatL [48] c=List.replicate c 48:=by
 induction c with
 |zero=>rfl
 |succ c a=>rw[Lib.repeatL,a];rfl
def sR(l a b):(bs l).extract a b=bs ((l.drop a).take (b-a)):=by
 apply fj;apply fU;simp[gu,List.take_drop]
def Ag(z:List UInt8)(k:Nat):List UInt8:=z.take k++(if mQ (z.drop k)=[]then[]else 46::mQ (z.drop k))
def Dw(z k g)(w:World)(l:w.cell? (J g)=some (.string (bs z)))(m:k<=z.length)(n:z.length<=1000000):
 Calls prog 170 #[.int .i64 (k:Int),U g] w fun e w'=>e=.returned (.string (bs (Ag z k)))/\w=w':=by
 have h:(bs z).size=z.length:=rfl;go_enter func170,ntmps170
 have i:(bs z).extract k z.length=bs (z.drop k):=by rw[sR,aM (by simp)]
 have j:(bs z).extract 0 k=bs (z.take k):=by rw[sR,dW,gk]
 go_wp2_with fail;refine(Bl (z.drop k) 48 _ (by decide) (by simp;omega)).mono ?_;rintro e o ⟨rfl,rfl⟩;rw[Bn];have a:Ag z k=z.take k++(if mQ (z.drop k)=[]then[]else 46::mQ (z.drop k)):=rfl
 have d:(mQ (z.drop k)).length<=1000000:=by
  unfold mQ;rw[List.length_reverse];refine af (gq _).length_le ?_;simp;omega
 generalize mQ (z.drop k)=T at*
 cases T with
 |nil=>
  rw[aq rfl,bG]at a;have c:=O a;clear a;go_wp2_with fail;go_ret;refine⟨?_,rfl⟩;rw[c];rfl
 |cons b T=>
  rw[aj (fJ _ _)]at a;have c:=O a;clear a
  have f:T.length<=1000000:=by simp at d;omega
  go_wp2_with fail;go_ret;refine⟨?_,rfl⟩
  show Ending.returned (.string (bs (z.take k)++bs [46]++bs (b::T)))=_
  rw[oQ,oQ,c,aC];rfl
def Fr(s:List UInt8)(d:Nat):List UInt8:=List.replicate (d+1-s.length) 48++s
def Ah(s d):rO s d=Ag (Fr s d) ((Fr s d).length-d):=rfl
def Le(l):(mQ l).length<=l.length:=by
 unfold mQ;rw[List.length_reverse];exact af (gq _).length_le (by simp)
def Is(z k):(Ag z k).length<=2*z.length+1:=by
 unfold Ag;rw[al,bn];have h1:=Le (z.drop k);rw[eQ]at h1;split
 .simp;omega
 .rw[aH];omega
def Ai(z):Lib.trimPrefix (De z) [45]=Lib.decDigits z.natAbs:=by
 unfold Lib.trimPrefix De;by_cases h:z<0
 .rw[aq h];rfl
 .rw[aj h,bD]
  cases hd:Lib.decDigits z.natAbs with
  |nil=>rfl
  |cons b l=>
   have c:ma b=true:=nn z.natAbs b (by rw[hd];exact aG);have a:=Qz c
   have:Lib.hasPrefix (b::l) [45]=false:=by
    show((45:UInt8)==b&&_)=false
    rw[cL];exact VR (ak.2 (fun e=>a e.symm))
   rw[this];rfl
def Aj(z)(d:Nat)(w)(hd:d<=18)(hz:(Lib.decDigits z.natAbs).length<=100):
 Calls prog 127 #[.string (bs (De z)),.int .i64 (d:Int)] w (iZ w (.string (bs (iz z d)))):=by
 have s:=Ai z
 have E:(if z<0 then[45]else([]:List UInt8)).length<=1:=by split<;>simp
 have j:iz z d=(if z<0 then[45]else[])++rO (Lib.decDigits z.natAbs) d:=by rw[EF];rfl
 have c:De z=(if z<0 then[45]else[])++Lib.decDigits z.natAbs:=rfl;generalize Lib.decDigits z.natAbs=D at*;generalize(if z<0 then[45]else([]:List UInt8))=M at*;have hM:M.length<=1:=E
 have hl:((De z).length:Int)-(D.length:Int)=(M.length:Int):=by rw[c,al];omega
 have e2:(bs (De z)).extract 0 M.length=bs M:=by rw[sR,c,dW,gk,List.take_left'];rfl
 have S:(De z).length<=101:=by rw[c,al];omega
 have B:=O s;have o:=O j;have Q:=O c;clear s j c;go_enter func127,ntmps127;go_wp2_with fail;refine(tX _ [45] _).mono ?_;rintro e w1 ⟨rfl,rfl⟩;rw[B];go_wp2_with fail;have c0:(w.alloc (.cells #[.string (bs D)] 9)).cell? (J (w.heap.size))=some (.string (bs D)):=World.cell?_alloc_at _ _ _ _ rfl
 have h:w.heap.size<(w.alloc (.cells #[.string (bs D)] 9)).heap.size:=by simp
 have t:Below w w (w.alloc (.cells #[.string (bs D)] 9)):=(TH _ _).alloc (aa _) _;have i:=TL w (.cells #[.string (bs D)] 9);generalize(w.alloc (.cells #[.string (bs D)] 9))=w0 at*;have m:=O t;have f:=O i;clear t i;refine gS 9 [(0,true),(1,true),(2,true),(3,true),(4,true),(5,true),(7,true),(6,false),(8,true)] (by kernel_rfl) (by kernel_rfl) ?_
 iterate 7
  refine gU (v:=?_) ?_ ?_;rotate_left
  .intro x F
   have z1:=(F.cell (p:=J (w.heap.size)) h).trans c0;go_simp;with_reducible rfl
  try simp only[V]
 refine gP (fun P r=>?_);go_simp
 have em:max (IntKind.i64.wrap (IntKind.i64.wrap ((d:Int)+1)-(D.length:Int))) 0=((d+1-D.length:Nat):Int):=by
  rw[TM ((d:Int)+1) (by omega),TM _ (by omega)];omega
 rw[em];refine(zY [48] (d+1-D.length) _ (by omega) (by simp)).mono ?_;rintro e K ⟨rfl,n⟩;rw[Af];refine r _ _ n ?_;clear r P;(try simp only[V]);have g:=gJ (k:=1) n;have L:bs (List.replicate (d+1-D.length) 48)++bs D=bs (Fr D d):=oQ _ _
 have a0:(List.replicate (d+1-D.length) (48:UInt8)).length<=19:=by rw[dr];omega
 have X:(Fr D d).length<=119:=by unfold Fr;rw[al];omega
 have N:d<=(Fr D d).length:=by unfold Fr;rw[al,dr];omega
 have u:=Ah D d;have q:=O u;clear u;generalize List.replicate (d+1-D.length) (48:UInt8)=R at*;generalize Fr D d=Zq0 at*;have l:=O g;clear n g em
 have W:¬9223372036854775807<R.length+D.length:=by omega
 refine gU (v:=?_) ?_ ?_;rotate_left
 .intro x F
  go_simp;with_reducible rfl
 (try simp only[V]);refine iu rfl ?_;have a:=(l.block w h).trans f;have f1:=gD a 0;have k0:=gA a 0;have H:K.cell? (J (w.heap.size))=some (.string (bs D)):=k0.trans rfl;have b:=gG a 0 (.string (bs Zq0));have k1:(K.setCell (J (w.heap.size)) (.string (bs Zq0))).cell? (J (w.heap.size))=some (.string (bs Zq0)):=(gA b 0).trans rfl;have A:=O k1;have C:=O ((m.trans (l.mono m.size)).setCell (p:=J (w.heap.size)) (aa _) (.string (bs Zq0)))
 have T:∀(fn:Fn)(first cap:Array Value)(w:World),(Instr.makeFunc fn first cap).run prog w=.ok (.func fn first cap) w:=fun _ _ _ _=>rfl
 have a2:((Zq0.length:Int)-(d:Int))=((Zq0.length-d:Nat):Int):=by omega
 clear k1 k0 c0 a b f m l;go_wp2_with fail;refine(Dw Zq0 (Zq0.length-d) w _ A (by omega) (by omega)).mono ?_;rintro e w4 ⟨rfl,rfl⟩;rw[<- q]
 have a1:(rO D d).length<=300:=by
  rw[q];have h1:=Is Zq0 (Zq0.length-d);omega
 generalize rO D d=Uq0 at*
 have y:bs M++bs Uq0=bs (iz z d):=by rw[oQ,o]
 clear f1 H;go_wp2_with fail;go_ret;exact⟨rfl,C⟩
def It{z}(h1: -9223372036854775808<=z)(h2:z<=9223372036854775807):(Lib.decDigits z.natAbs).length<=100:=
 af (EI (nu z h1 h2) (by omega)) (by omega)
def Fs(z:Int)(d:Nat)(w)(h1: -9223372036854775808<=z)(h2:z<=9223372036854775807)(i:d<=18)(j:GW w):
 Calls prog 80 #[z,.int .i64 (d:Int)] w (iZ w (.tuple #[.string (bs (iz z d)),oZ])):=by
 have k:¬(d:Int) <0:=by omega
 have l:¬18<(d:Int):=by omega
 have hi:=Ny z w h1 h2 j;rw[PQ]at hi;have h:=O hi;clear hi;go_enter func80,ntmps80;go_wp2_with fail;refine h.mono ?_;rintro e m ⟨rfl,b⟩;have a:=O b;clear b;have g:=It h1 h2;go_wp2_with fail;refine(Aj z d _ i g).mono ?_;rintro e n ⟨rfl,c⟩;have f:=O (a.trans (c.mono a.size));clear c;go_wp2_with fail;go_ret2;exact⟨rfl,f⟩
def nP:Nat->Option Nat->Int->List UInt8->Option Nat×Int
 |_,pt,last,[]=>(pt,last)
 |i,pt,last,c::r=>
  if c=46/\pt=none/\0<i then nP (i+1) (some i) 46 r
  else if ma c then nP (i+1) pt (c.toNat:Int) r else(pt,32)
def tj(d:Int)(w:List UInt8):Int:=match w.getLast? with
 |none=>d
 |some b=>(b.toNat:Int)
def rg:∀(w r:List UInt8)(i:Nat)(d:Option Nat)(a:Int),w.all ma=true->nP i d a (w++r)=nP (i+w.length) d (tj a w) r
 |[],r,i,d,a,_=>rfl
 |c::w,r,i,d,a,h=>by
  rw[fh,am]at h
  have f:c≠46:=by have:=Qy h.1;exact ak.1 this
  rw[bF,nP,aj (fun e=>f e.1),aq h.1,rg w r (i+1) d _ h.2,aH];rw[show i+1+w.length=i+(w.length+1)by omega];congr 1;unfold tj
  cases w with
  |nil=>rfl
  |cons b w=>rw[gh];cases hh:(b::w).getLast? with
   |none=>simp at hh
   |some x=>rfl
def Cp{i b a c r}(h1:¬(c=46/\b=none/\0<i))(h2:ma c=false):nP i b a (c::r)=(b,32):=by
 rw[nP,aj h1,h2];rfl
def Ak(x:Int):Bool:=decide (48<=x/\x<=57)
def PR{b}(h:ma b=true):Ak (b.toNat:Int)=true:=by
 have:=bZ h;exact aP (by omega)
def yb(t:List UInt8)(q:Option Nat×Int):Option Nat:=
 let a:List UInt8:=match q.1 with
  |none=>t
  |some p=>t.take p
 if Ak q.2=false\/(q.1≠none/\q.2=48)then none
 else if 1<a.length/\a.head?=some 48 then none
 else some (match q.1 with
  |none=>0
  |some p=>t.length-p-1)
def yd{w}(hw:w.all ma=true)(a:w≠[])(d):Ak (tj d w)=true:=by
 unfold tj
 cases h:w.getLast? with
 |none=>exact absurd (fV.1 h) a
 |some b=>exact PR (an.1 hw b (List.mem_of_getLast? h))
def Al{w}(a:w≠[])(d):tj d w=48↔w.getLast?=some 48:=by
 unfold tj
 cases h:w.getLast? with
 |none=>exact absurd (fV.1 h) a
 |some b=>
  simp only[bA];constructor
  .intro e;exact fN.1 (by show b.toNat=48;omega)
  .intro e;rw[e];rfl
def Lf(t):yb t (nP 0 none 32 t)=we t:=by
 have a:t=t.takeWhile ma++t.dropWhile ma:=(dX).symm;have hw:(t.takeWhile ma).all ma=true:=eF;unfold we;simp only[];generalize hW:t.takeWhile ma=w at*;generalize hR:t.dropWhile ma=r at*
 have y:∀b m,r=b::m->ma b=false:=by
  intro b m e;have:=fZ ma t;rw[hR,e]at this;simpa using this
 have z:nP 0 none 32 t=nP w.length none (tj 32 w) r:=by
  have:=rg w r 0 none 32 hw;rw[<- a,aV]at this;exact this
 rw[z]
 cases r with
 |nil=>
  rw[bG]at a;subst a;rw[nP];unfold yb;simp only[];by_cases j:t=[]
  .subst j;rfl
  .have h1:¬(Ak (tj 32 t)=false\/((none:Option Nat)≠none/\tj 32 t=48)):=by
    rw[yd hw j];simp
   rw[aj h1];by_cases d:1<t.length/\t.head?=some 48
   .rw[aq d,aq (VS d)]
   .rw[aj d,aj (fun e=>e.elim j d)]
 |cons b f=>
  have v:=y b f rfl;by_cases h:b=46/\0<w.length
  .obtain⟨rfl,n⟩:=h
   have j:w≠[]:=fun e=>by rw[e]at n;simp at n
   rw[nP,aq ⟨rfl,rfl,n⟩]
   have k:t.take w.length=w:=by rw[a];simp
   have s:t.length-w.length-1=f.length:=by rw[a,al,aH];omega
   by_cases hf:f.all ma=true
   .have h2:=rg f [] (w.length+1) (some w.length) 46 hf
    rw[bG]at h2;rw[h2,nP];unfold yb;simp only[k,s];by_cases i:f=[]
    .subst i
     have:Ak (tj 46 [])=false:=rfl;rw[aq (VR this)];by_cases d:w=[]\/(1<w.length/\w.head?=some 48)
     .rw[aq d]
     .rw[aj d,aj (fun e=>e.2.1 rfl)]
    .rw[yd hf i]
     by_cases o:f.getLast?=some 48
     .have:tj 46 f=48:=(Al i 46).2 o
      rw[aq (VS ⟨by simp,this⟩)];by_cases d:w=[]\/(1<w.length/\w.head?=some 48)
      .rw[aq d]
      .rw[aj d,aj (fun e=>e.2.2.2 o)]
     .have:¬tj 46 f=48:=fun e=>o ((Al i 46).1 e)
      rw[aj (by simp[this])];by_cases d:1<w.length/\w.head?=some 48
      .rw[aq d,aq (VS d)]
      .rw[aj d,aj (fun e=>e.elim j d),aq ⟨trivial,i,hf,o⟩]
   .have q:∃u,nP (w.length+1) (some w.length) 46 f=(u,32):=by
     have l:f=f.takeWhile ma++f.dropWhile ma:=(dX).symm
     cases hd:f.dropWhile ma with
     |nil=>
      rw[hd,bG]at l;exact absurd (by rw[l];exact eF) hf
     |cons c g=>
      have x:ma c=false:=by
       have:=fZ ma f;rw[hd]at this;simpa using this
      rw[l,hd,rg _ _ _ _ _ eF,Cp (by simp) x];exact⟨_,rfl⟩
    obtain⟨u,p⟩:=q;rw[p];unfold yb;have:Ak 32=false:=rfl;simp only[this,true_or,bX];by_cases d:w=[]\/(1<w.length/\w.head?=some 48)
    .rw[aq d]
    .rw[aj d,aj (fun e=>hf e.2.2.1)]
  .rw[Cp (fun e=>h ⟨e.1,e.2.2⟩) v]
   unfold yb;have:Ak 32=false:=rfl;simp only[this,true_or,bX];by_cases d:w=[]\/(1<w.length/\w.head?=some 48)
   .rw[aq d]
   .rw[aj d,aj]
    rintro⟨rfl,_⟩;refine h ⟨rfl,ez.2 (fun e=>d (VR e))⟩
def QU(w:World)(g h j:Obj)(xs ys:List Int)(e d f:Value)(wr:World):Prop:=
 ∃(i:Nat)(a:Int)(b:Option Addr)(c:Nat)(zs:List Int),e=.slice b zs.length c/\d=.int .i64 a/\f=.int .i64 (i:Int)/\Py xs ys zs i a/\
  i<=xs.length/\wr.ownsRow (w+3) 3 1 (.slice b zs.length c) zs.length (zs.map (Value.int .i64))/\
  wr.heap[w.heap.size]? =some g/\wr.heap[w.heap.size+1]? =some h/\wr.heap[w.heap.size+2]? =some j/\Below w w wr/\w.heap.size+3<=wr.heap.size
def zG(s x y a b n m c d)(w:World)(M:LG w w s a n c x)(N:LG w w s b m d y)(g7:n≠0)(g6:m≠0)(e9:y.natAbs<=x.natAbs):
 Calls prog 232 #[.agg #[s,Z a n c],.agg #[s,Z b m d]] w (tb w (x-y)):=by
 have g0:((n:Int)==0)=false:=by simp;omega
 have g1:((m:Int)==0)=false:=by simp;omega
 have hn:=M.2.2;have hm:=N.2.2
 have e8:m<=n:=by rw[M.2.1.len,N.2.1.len];exact iM e9
 have c3:decide (x.natAbs<y.natAbs)=false:=aw (by omega);have H:=lW w (.cells #[s,Z a n c] 221) (.cells #[s,Z b m d] 221) (.cells #[false,oN] 221);obtain⟨i1,i2,i3⟩:=jh w (.cells #[s,Z a n c] 221) (.cells #[s,Z b m d] 221) (.cells #[false,oN] 221);have c5:s=decide (x<0)/\s=decide (y<0):=⟨M.1,N.1⟩;have d9:=O c5;have z:=O M.2.1;have A:=O N.2.1;have d7:=O c3;have I1:=O i1;have I2:=O i2;have I3:=O i3;have q:=O H;have k:=M.2.1.len;have B:=N.2.1.len;have E:=O k;have F:=O B;clear M N c5 c3 i1 i2 i3 H k B;go_enter func232,ntmps232;go_wp2_with fail;refine(tP x.natAbs y.natAbs a b n m c d _ (by exact z.go q) (by exact A.go q) (by omega)).mono ?_;rintro e wq ⟨he,kq,rfl⟩;rw[d7]at he;subst he;go_upto_region 9 with fail;refine jp (fun wx=>wx.heap[w.heap.size]? =some (.cells #[s,Z a n c] 221 (0,0))/\wx.heap[w.heap.size+1]? =some (.cells #[s,Z b m d] 221 (0,0))/\wx.heap[w.heap.size+2]? =some (.cells #[false,oN] 221 (0,0))/\Below w w wx) ⟨I1,I2,I3,gV q kq⟩ ?_;clear I1 I2 I3 q;rintro w0 ⟨j1,j2,j3,b6⟩;have g2:=TK j3;have J1:=O j1;have J2:=O j2;have J3:=O j3;have d1:=O b6;have b9:=iU x.natAbs;have c0:=iU y.natAbs;have c8:=iY x.natAbs;have c9:=iY y.natAbs;have c6:=z.out;have c7:=A.out;have k:=E.out;have B:=F.out
 have K:(ip x.natAbs).length<=600:=by omega
 clear j1 j2 j3 b6 z A E F;have b8:(ip (x.natAbs-y.natAbs)).length<=600:=af (iM (Nat.sub_le _ _)) K;generalize ip x.natAbs=xs at*;generalize ip y.natAbs=ys at*;have D:=O k;have d8:=O B;have S:=O b9;have T:=O c0;have b1:=O c8;have b2:=O c9;have z:=O c6;have A:=O c7;have d4:=O b8;clear k B b9 c0 c8 c9 c6 c7 K b8;go_wp2_with fail
 go_loopw [5,6,7] (fun dv cv iv wr=>QU w (.cells #[s,Z a n c] 221 (0,0)) (.cells #[s,Z b m d] 221 (0,0)) (.cells #[false,oN] 221 (0,0)) xs ys dv cv iv wr) (fun _ _ iv _=>n-(intOf iv).toNat)
 case atStart=>exact⟨0,0,none,0,[],rfl,rfl,rfl,⟨rfl,mv.nil,by simp[val],by omega,by omega⟩,aA _,World.ownsRow_nil _ _ _ _,J1,J2,J3,d1,by omega⟩
 case round=>
  obtain⟨i,C,va,vc,zs,rfl,rfl,rfl,u,hi,L,a1,a2,a3,t,o⟩:=hrel;obtain⟨q1,q2,f1,f2⟩:=gQ a1;obtain⟨q3,q4,f3,f4⟩:=gQ a2;obtain⟨q5,q6,f5,f6⟩:=gQ a3;have b5:=z.go t;have b7:=A.go t;have f0:=u.2.2.2.1;have f7:=u.2.2.2.2;have b3:=O u.1
  have g4:i<=n:=by rw[D];exact hi
  have d0:=O b5;have d3:=O b7;have HD:=O u;have g:=O L;have a8:=O a1;have a9:=O a2;have b0:=O a3;clear b5 b7 u L a1 a2 a3 f1 f2 f3 f4 hi;by_cases hlt:i<n
  .obtain⟨ba,oa,rfl,e6,ca⟩:=d0.at (by omega)
   have g5:=ca i hlt;have a6:=e6;clear ca;have f8:=S.all i;have f9:=T.all i;have Q:=O (HD.less S T);have R:=O (HD.more S T);generalize hxi:xs.getD i 0=xi at*;generalize hyi:ys.getD i 0=yi at*;have e0:=O hyi;clear hxi hyi;go_wp2_with fail;refine gS 12 [(0,true),(1,true),(2,true),(3,true),(4,true),(5,true),(6,true),(7,true),(10,true),(8,false),(9,true),(11,true)] (by kernel_rfl) (by kernel_rfl) ?_
   iterate 9
    refine gU (v:=?_) ?_ ?_;rotate_left
    .intro y hy
     have z2:=(hy.cell (p:=⟨w.heap.size,1,none⟩) (by show w.heap.size<wr.heap.size;omega)).trans q2;have z4:=(hy.cell (p:=⟨w.heap.size+1,1,none⟩) (by show w.heap.size+1<wr.heap.size;omega)).trans q4;have z5:=(hy.cell (p:=⟨ba,oa+i,none⟩) a6).trans g5;go_simp;with_reducible rfl
    try simp only[V]
   refine gP (fun KK b4=>?_);go_simp;refine(ux ys b m d i yi _ (by exact d3) (by omega) (by omega) e0).mono ?_;rintro e w4 ⟨rfl,rfl⟩;refine b4 _ _ (TH _ _) ?_;clear b4 KK;try simp only[V]
   iterate 2
    refine gU (v:=?_) ?_ ?_;rotate_left
    .intro y hy
     skip;go_simp;with_reducible rfl
    try simp only[V]
   refine iu rfl ?_
   have g3:zs.length<=601:=by have:=b3.out;omega
   by_cases a7:xi-yi-C<0
   .have c4:¬0<=xi-yi-C:=by omega
    have P:=O (Q a7);clear Q R q1 q2 q3 q4 q5 q6 f5 f6
    go_wp2_with(refine ju rfl (.tmp 61) (.tmp 63) 162 rfl underlying162 (w+3) _ _ zs rfl (g.alloc _) _ _ 1 1 [_] rfl (SL.one wr.drew _ _) (by simp) (by omega) (by simp;omega) ?_)
    intro v' w1 h j;obtain⟨a4,a5,rfl⟩:=kx h;have f:(wr.alloc (.cells #[.int .i64 (xi-yi-C+1000000000)] 3)).grownBy w1 (Value.slice va zs.length vc).ownBlock:=pY j;have e1:=(jI (base:=w.heap.size+3) g f (b:=w.heap.size) (by omega) o).trans a8;have e2:=(jI (base:=w.heap.size+3) g f (b:=w.heap.size+1) (by omega) o).trans a9;have e5:=(jI (base:=w.heap.size+3) g f (b:=w.heap.size+2) (by omega) o).trans b0;have e3:=jF t g f (by omega) o;have e4:=f.size;have W:=O e1;have X:=O e2;have a0:=O e5;have l:=O h;clear e1 e2 e5 h j f;go_wp2
    go_roundw
    case rel=>
     refine⟨i+1,1,a4,a5,zs++[xi-yi-C+1000000000],by simp,rfl,by go_num,P,?_,?_,W,X,a0,e3,?_⟩
     .rw[<- D];omega
     .simpa using l.out
     .simp at e4⊢;omega
    case measure=>simp[intOf];omega
   .have c4:0<=xi-yi-C:=by omega
    have P:=O (R c4);clear Q R q1 q2 q3 q4 q5 q6 f5 f6
    go_wp2_with(refine ju rfl (.tmp 61) (.tmp 63) 162 rfl underlying162 (w+3) _ _ zs rfl (g.alloc _) _ _ 1 1 [_] rfl (SL.one wr.drew _ _) (by simp) (by omega) (by simp;omega) ?_)
    intro v' w1 h j;obtain⟨a4,a5,rfl⟩:=kx h;have f:(wr.alloc (.cells #[.int .i64 (xi-yi-C)] 3)).grownBy w1 (Value.slice va zs.length vc).ownBlock:=pY j;have e1:=(jI (base:=w.heap.size+3) g f (b:=w.heap.size) (by omega) o).trans a8;have e2:=(jI (base:=w.heap.size+3) g f (b:=w.heap.size+1) (by omega) o).trans a9;have e5:=(jI (base:=w.heap.size+3) g f (b:=w.heap.size+2) (by omega) o).trans b0;have e3:=jF t g f (by omega) o;have e4:=f.size;have W:=O e1;have X:=O e2;have a0:=O e5;have l:=O h;clear e1 e2 e5 h j f;go_wp2
    go_roundw
    case rel=>
     refine⟨i+1,0,a4,a5,zs++[xi-yi-C],by simp,rfl,by go_num,P,?_,?_,W,X,a0,e3,?_⟩
     .rw[<- D];omega
     .simpa using l.out
     .simp at e4⊢;omega
    case measure=>simp[intOf];omega
  .have e7:i=n:=by omega
   subst e7;have u:=HD.out;have k:=D.out;rw[k]at u;have hv:=u.last (by rw[<- d8,<- k];exact e8) (by rw[b1,b2];omega);rw[b1,b2]at hv
   have hz:x-y=if s then -val zs else val zs:=by
    obtain⟨s1,s2⟩:=d9;rw[hv];cases s
    .have h1:¬x<0:=by simpa using s1
     have h2:¬y<0:=by simpa using s2
     simp;omega
    .have h1:x<0:=by simpa using s1
     have h2:y<0:=by simpa using s2
     simp;omega
   have c1:(ip (val zs).toNat).length<=600:=by
    have e:(val zs).toNat=x.natAbs-y.natAbs:=by rw[hv];omega
    rw[e];exact d4
   have Hz:=O hz;have d5:=O c1;clear u k hv hz c1;go_wp2_with fail;refine(nl s zs (x-y) _ _ _ _ (by exact ur g) HD.2.1 (by have:=b3.out;omega) d5 Hz).mono ?_;rintro e w1 ⟨s',a',n',c',rfl,c2,r,hf⟩;have k5:=(r.cell (p:=J (w+2)) (by show w.heap.size+2<wr.heap.size;omega)).trans q5;have k6:=(r.cell (p:=⟨w.heap.size+2,1,none⟩) (by show w.heap.size+2<wr.heap.size;omega)).trans q6;have k7:=(r.frozen (p:=J (w+2)) (by show w.heap.size+2<wr.heap.size;omega)).trans f5;have k8:=(r.frozen (p:=⟨w.heap.size+2,1,none⟩) (by show w.heap.size+2<wr.heap.size;omega)).trans f6;have d6:=O c2;have Hf:=O hf;have d2:=O r;clear c2 hf r;go_wp2_with fail;refine ar (v:=.agg #[s',Z a' n' c']) ?_ rfl ?_
   .simp[results,results232,go_sem,k5,k6]
   .exact pF d6 (t.trans (d2.mono t.size)) Hf (w+2) (by omega) (by omega) _ _
def GV(s x y a b n m c d)(w:World)(j:LG w w s a n c x)(q:LG w w s b m d y)(W:n≠0)(T:m≠0)(H:x.natAbs<y.natAbs):
 Calls prog 232 #[.agg #[s,Z a n c],.agg #[s,Z b m d]] w (tb w (x-y)):=by
 have g0:((n:Int)==0)=false:=by simp;omega
 have g1:((m:Int)==0)=false:=by simp;omega
 have hn:=j.2.2;have F:decide (x.natAbs<y.natAbs)=true:=aP H;have f:=lW w (.cells #[s,Z a n c] 221) (.cells #[s,Z b m d] 221) (.cells #[false,oN] 221);obtain⟨X,i2,i3⟩:=jh w (.cells #[s,Z a n c] 221) (.cells #[s,Z b m d] 221) (.cells #[false,oN] 221);have l:=O (j.go f);have o:=O (q.go f);have M:=O F;have N:=O X;have P:=O i2;have Q:=O i3;have i:=O f;clear j q F X i2 i3 f;go_enter func232,ntmps232;go_wp2_with fail;refine(tP x.natAbs y.natAbs a b n m c d _ (by exact l.2.1) (by exact o.2.1) (by omega)).mono ?_;rintro e wq ⟨S,kq,rfl⟩;rw[M]at S;subst S;go_upto_region 8 with fail;refine jp (fun h=>h.heap[w.heap.size]? =some (.cells #[s,Z a n c] 221 (0,0))/\h.heap[w.heap.size+1]? =some (.cells #[s,Z b m d] 221 (0,0))/\h.heap[w.heap.size+2]? =some (.cells #[false,oN] 221 (0,0))/\LG h h s a n c x/\LG h h s b m d y/\Below w w h) ⟨N,P,Q,l,o,gV i kq⟩ ?_;clear N P Q i l o;rintro w0 ⟨j1,j2,k,j,q,B⟩;have u:=TK k;obtain⟨q1,q2,f1,f2⟩:=gQ j1;obtain⟨q3,q4,f3,f4⟩:=gQ j2;have R:=O k;have z:=O B;have l:=O j;have o:=O q;clear j1 j2 k B j q;go_wp2_with fail;refine(zG s y x b a m n d c _ (by exact o) (by exact l) T W (cE H)).mono ?_;rintro e w1 ⟨s1,a1,n1,c1,rfl,E,C,a0⟩;have K:=O E;have p:=O C;clear E C q1 q2 q3 q4 f1 f2 f3 f4;go_wp2_with fail;refine(wh s1 (y-x) a1 n1 c1 w1 (by exact K)).mono ?_;rintro e w2 ⟨s2,a2,n2,c2,rfl,r,D,A⟩;rw[show -(y-x)=x-y by omega]at r;have g:Below w0 w0 w2:=p.trans (D.mono p.size);have k:=(g.block (w+2) u).trans R;obtain⟨q5,q6,f5,f6⟩:=gQ k;have a3:=p.size;have L:=O r;have t:=O g;have F2:=O A;clear r D g A k R;go_wp2_with fail;refine ar (v:=.agg #[s2,Z a2 n2 c2]) ?_ rfl ?_
 .simp[results,results232,go_sem,q5,q6]
 .exact pF L (z.trans (t.mono z.size)) F2 (w+2) (by omega) (by omega) _ _
def Df(s x y a b n m c d)(w:World)(g:LG w w s a n c x)(i:LG w w s b m d y)(f:n≠0)(e:m≠0):
 Calls prog 232 #[.agg #[s,Z a n c],.agg #[s,Z b m d]] w (tb w (x-y)):=by
 by_cases h:y.natAbs<=x.natAbs
 .exact zG s x y a b n m c d w g i f e h
 .exact GV s x y a b n m c d w g i f e (by omega)
def QV{s t}(h:s≠t):s=!t:=by revert h;cases s<;>cases t<;>decide
def QW(w:World)(z:Int)(e:Ending)(w':World):Prop:=
 ∃s a n c,e=.returned (.agg #[.bool s,Z a n c])/\LG w' w' s a n c z/\Below w w w'
def Pz(s t)(a9:s≠t)(x y a b n m c d)(w:World)(r:LG w w s a n c x)(j:LG w w t b m d y):
 Calls prog 236 #[.agg #[s,Z a n c],.agg #[t,Z b m d]] w (QW w (x+y)):=by
 have i:=lW w (.cells #[s,Z a n c] 221) (.cells #[t,Z b m d] 221) (.cells #[false,oN] 221);obtain⟨i1,i2,i3⟩:=jh w (.cells #[s,Z a n c] 221) (.cells #[t,Z b m d] 221) (.cells #[false,oN] 221);have hn:=r.2.2;have hm:=j.2.2
 have b0:n=0->x=0:=fun e=>by have h:=r.2.1.len;rw[e]at h;have:=jC.1 h.symm;omega
 have b1:m=0->y=0:=fun e=>by have h:=j.2.1.len;rw[e]at h;have:=jC.1 h.symm;omega
 have b2:=j.2.1.len;have a8:t=decide (y<0):=j.1;have P:=O (r.go i);have R:=O (j.go i);have W:=O i1;have X:=O i2;have I3:=O i3;have g:=O i;have H:=O b2;have b6:=O a8;have Q:=O r;have S:=O j;have E:=O b0;have F:=O b1;clear r j i1 i2 i3 i b2 a8 b0 b1;by_cases h0:n=0
 .have hx:=E h0
  subst h0;clear W X I3 g E F;have u:=lW w (.cells #[s,Z a 0 c] 221) (.cells #[t,Z b m d] 221) (.cells #[t,Z b m d] 221);obtain⟨e1,e2,K⟩:=jh w (.cells #[s,Z a 0 c] 221) (.cells #[t,Z b m d] 221) (.cells #[t,Z b m d] 221);obtain⟨c0,c1,_,_⟩:=gQ K;have C0:=O c0;have C1:=O c1;have o:=O u;clear c0 c1 e1 e2 K u;go_enter func236,ntmps236;go_wp2;refine ar (v:=.agg #[t,Z b m d]) ?_ rfl ?_
  .simp[results,results236,go_sem,C0.out,C1.out]
  .exact⟨t,b,m,d,rfl,by rw[hx,Int.zero_add];exact S.go o,o⟩
 .have g0:((n:Int)==0)=false:=by simp;omega
  by_cases a6:m=0
  .have C:=F a6
   subst a6;clear W X I3 g E F;have u:=lW w (.cells #[s,Z a n c] 221) (.cells #[t,Z b 0 d] 221) (.cells #[s,Z a n c] 221);obtain⟨e1,e2,K⟩:=jh w (.cells #[s,Z a n c] 221) (.cells #[t,Z b 0 d] 221) (.cells #[s,Z a n c] 221);obtain⟨c0,c1,_,_⟩:=gQ K;have C0:=O c0;have C1:=O c1;have o:=O u;clear c0 c1 e1 e2 K u;go_enter func236,ntmps236;go_wp2;refine ar (v:=.agg #[s,Z a n c]) ?_ rfl ?_
   .simp[results,results236,go_sem,C0.out,C1.out]
   .exact⟨s,a,n,c,rfl,by rw[C,fB];exact Q.go o,o⟩
  .have g1:((m:Int)==0)=false:=by simp;omega
   have g2:(!(s==t))=true:=by simpa using a9
   have b5:=O (QV a9);go_enter func236,ntmps236;go_upto_region 6 with fail;refine jp (fun z=>z.heap[w.heap.size]? =some (.cells #[s,Z a n c] 221 (0,0))/\z.heap[w.heap.size+1]? =some (.cells #[t,Z b m d] 221 (0,0))/\z.heap[w.heap.size+2]? =some (.cells #[false,oN] 221 (0,0))/\LG z z s a n c x/\LG z z t b m d y/\Below w w z) ⟨W,X,I3,P,R,g⟩ ?_;clear W X I3 g P R;rintro w0 ⟨j1,j2,D,r,j,a5⟩;have a0:=TK D;obtain⟨q1,q2,_,_⟩:=gQ j1;obtain⟨q3,q4,_,_⟩:=gQ j2;have J3:=O D;have a3:=O a5;have P:=O r;have R:=O j;clear j1 j2 D a5 r j;refine gS 4 [(0,true),(1,true),(2,false),(3,false)] (by kernel_rfl) (by kernel_rfl) ?_
   iterate 2
    refine gU (v:=?_) ?_ ?_;rotate_left
    .intro y C
     have x1:=(C.cell (p:=J (w.heap.size)) (by show w.heap.size<w0.heap.size;omega)).trans q1;have x2:=(C.cell (p:=⟨w.heap.size,1,none⟩) (by show w.heap.size<w0.heap.size;omega)).trans q2;have x3:=(C.cell (p:=J (w+1)) (by show w.heap.size+1<w0.heap.size;omega)).trans q3;have x4:=(C.cell (p:=⟨w.heap.size+1,1,none⟩) (by show w.heap.size+1<w0.heap.size;omega)).trans q4;go_simp;with_reducible rfl
    try simp only[V]
   clear q1 q2 q3 q4;refine gP (fun KK q=>?_);go_simp;refine(wh t y b m d w0.drew (by exact R)).mono ?_;rintro e w1 ⟨s1,a1,n1,c1,rfl,B,L,b7⟩;refine q _ _ L ?_;clear q KK
   have a7:s1=s:=by
    rw[B.1,b5,b6]
    have b9:y≠0:=fun e=>by rw[e,show(0:Int).natAbs=0 from rfl,jP]at H;have:=H.out;simp at this;omega
    by_cases h:y<0
    .rw[aP h];exact aw (by omega)
    .rw[aw h];exact aP (by omega)
   subst a7
   have b8:n1≠0:=fun e=>by
    have h1:=B.2.1.len;rw[e,Int.natAbs_neg,<- H]at h1;omega
   have A:Below w0 w0 w1:=gJ (k:=1) L;have b3:=O B;have f:=O A;clear B L A b7;(try simp only[V]);refine gP (fun KK q=>?_);go_simp;refine(Df s1 x (-y) a a1 n n1 c c1 w1 (by exact P.go f) (by exact b3) h0 b8).mono ?_;rintro e w2 ⟨s2,a2,n2,c2,rfl,N,M,a4⟩;refine q _ _ M ?_;clear q KK;rw[show x- -y=x+y by omega]at N;have l:Below w0 w0 w2:=f.trans (M.mono f.size);have D:=(l.block (w+2) a0).trans J3;obtain⟨q5,q6,f5,f6⟩:=gQ D;have a7:=f.size;have b4:=O N;have T:=O l;have F2:=O a4;clear N M l a4 D J3;(try simp only[V]);refine iu rfl ?_;go_wp2_with fail;refine ar (v:=.agg #[s2,Z a2 n2 c2]) ?_ rfl ?_
   .simp[results,results236,go_sem,q5,q6]
   .obtain⟨z1,z2,z3,z4,z5,z6,z7,z8⟩:=pF (w:=w) b4 (a3.trans (T.mono a3.size)) F2 (w+2) (by omega) (by omega) (.bool s2) (.slice a2 n2 c2)
    exact⟨z1,z2,z3,z4,z5,z6,z7⟩
def EJ(s t x y a b n m c d)(w:World)(g:LG w w s a n c x)(i:LG w w t b m d y)(f:(ip (x+y).natAbs).length<=600):
 Calls prog 236 #[.agg #[s,Z a n c],.agg #[t,Z b m d]] w (QW w (x+y)):=by
 by_cases h:s=t
 .subst h
  refine(Ps w s x y a b n m c d w g i (aa _) f).mono ?_;rintro e w' ⟨s',a',n',c',rfl,h1,h2,_⟩;exact⟨s',a',n',c',rfl,h1,h2⟩
 .exact Pz s t h x y a b n m c d w g i
def T7(r s):mkRat (r.num*s.den+s.num*r.den) (r.den*s.den)=r+s:=by
 rw[Rat.add_def,fX,eJ (Nat.mul_ne_zero r.den_nz s.den_nz)]
def T8{k l r s}(h1:Sz k r)(h2:Sz l s):(r.num*s.den+s.num*r.den).natAbs<1000000000^(k+l+1)/\r.den*s.den<1000000000^(k+l):=by
 have a:(r.num*s.den).natAbs<1000000000^(k+l):=by rw[eG,dm,aB];exact cU h1.1 h2.2
 have b:(s.num*r.den).natAbs<1000000000^(k+l):=by rw[eG,dm,aB,cd];exact cU h1.2 h2.1
 refine⟨?_,by rw[dm];exact cU h1.2 h2.2⟩;rw[bM];omega
def M3{k l r s}(h1:Sz k r)(h2:Sz l s):(r.num*s.den).natAbs<1000000000^(k+l):=by
 rw[eG,dm,aB];exact cU h1.1 h2.2
def M4(g h k1 X s t a b a' b' n m c d n' m' c' d')(w:World)(h1:QL w w s a n c b m d g)(h2:QL w w t a' n' c' b' m' d' h)(z1:Sz k1 g)(z2:Sz X h)(hk:k1+X<=598):
 Calls prog 257 #[.agg #[s,Z a n c,false,Z b m d],.agg #[t,Z a' n' c',false,Z b' m' d']] w (GO w (g+h)):=by
 obtain⟨zn,zd⟩:=T8 z1 z2;have ln:(ip (g.num*h.den+h.num*g.den).natAbs).length<=599:=af (iB zn) (by omega);have ld:(ip (g.den*h.den)).length<=599:=af (iB zd) (by omega);have b3:(ip (g.num*((h.den:Nat):Int)).natAbs).length<=600:=af (iB (M3 z1 z2)) (by omega);have b5:(ip (h.num*((g.den:Nat):Int)).natAbs).length<=600:=af (iB (M3 z2 z1)) (by omega);have c8:0<g.den*h.den:=dZ (bq g.den_nz) (bq h.den_nz);have b2:=T7 g h;generalize g+h=R at*;obtain⟨i0,i1,i2⟩:=jh w (.cells #[s,Z a n c,false,Z b m d] 243) (.cells #[t,Z a' n' c',false,Z b' m' d'] 243) (.cells #[false,oN,false,oN] 243);have L:=oF w (.cells #[s,Z a n c,false,Z b m d] 243) (.cells #[t,Z a' n' c',false,Z b' m' d'] 243) (.cells #[false,oN,false,oN] 243);have I0:=O i0;have I1:=O i1;have I2:=O i2;have o:=O L;have H:=O h1;have K:=O h2;have b9:=O ln;have a8:=O ld;have c6:=O b2;have b7:=O b3;have b8:=O b5;clear i0 i1 i2 L h1 h2 zn zd ln ld b2 b3 b5;go_enter func257,ntmps257;go_upto_region 1 with fail;refine jp (fun wx=>pO wx w s a n c false b m d/\pO wx (w+1) t a' n' c' false b' m' d'/\pO wx (w+2) false none 0 0 false none 0 0/\Below w w wx) ⟨I0,I1,I2,o⟩ ?_;clear I0 I1 I2 o;rintro w1 ⟨h0,h1,h2,L⟩;have l0:=TK h0;have l1:=TK h1;have l2:=TK h2;obtain⟨c0,c1,c2,c3⟩:=gL h0;obtain⟨e0,e1,e2,e3⟩:=gL h1;have Q:=O h2;have o:=O L;clear h0 h1 h2 L;refine gS 17 [(0,true),(1,true),(2,true),(3,true),(5,true),(6,true),(7,true),(8,true),(11,true),(12,true),(13,true),(14,true),(4,false),(9,false),(10,false),(15,false),(16,false)] (by kernel_rfl) (by kernel_rfl) ?_
 iterate 12
  refine gU (v:=?_) ?_ ?_;rotate_left
  .intro y z
   have x0:=(z.cell (p:=J (w.heap.size)) l0).trans c0;have x1:=(z.cell (p:=⟨w.heap.size,1,none⟩) l0).trans c1;have x2:=(z.cell (p:=⟨w.heap.size,2,none⟩) l0).trans c2;have x3:=(z.cell (p:=⟨w.heap.size,3,none⟩) l0).trans c3;have y0:=(z.cell (p:=J (w+1)) l1).trans e0;have y1:=(z.cell (p:=⟨w.heap.size+1,1,none⟩) l1).trans e1;have y2:=(z.cell (p:=⟨w.heap.size+1,2,none⟩) l1).trans e2;have y3:=(z.cell (p:=⟨w.heap.size+1,3,none⟩) l1).trans e3;go_simp;with_reducible rfl
  try simp only[V]
 clear c0 c1 c2 c3 e0 e1 e2 e3;refine gP (fun u f=>?_);go_simp;refine(qA s false g.num ((h.den:Nat):Int) a b' n m' c d' w1.drew (by exact H.n.go (oP o)) (by exact K.d.go (oP o)) b7).mono ?_;rintro e w2 ⟨s2,a2,n2,c2,rfl,a9,M,_⟩;refine f _ _ M ?_;clear f u;have B:Below w1 w1 w2:=gJ (k:=1) M;have a0:=O a9;have j:=O B;clear a9 M B;(try simp only[V]);refine gP (fun u f=>?_);go_simp;refine(qA t false h.num ((g.den:Nat):Int) a' b n' m c' d w2 (by exact(K.n.go o).go j) (by exact(H.d.go o).go j) b8).mono ?_;rintro e w3 ⟨s3,a3,n3,c3,rfl,b0,C,_⟩;refine f _ _ C ?_;clear f u;have A:=O (a0.go C);have a1:=O b0;have q:=O (j.trans (C.mono j.size));clear b0 C a0 j;(try simp only[V]);refine gP (fun u f=>?_);go_simp;refine(EJ s2 s3 (g.num*((h.den:Nat):Int)) (h.num*((g.den:Nat):Int)) a2 a3 n2 n3 c2 c3 w3 (by exact A) (by exact a1) (by have:=b9.out;omega)).mono ?_;rintro e w4 ⟨sQ,aQ,nQ,cQ,rfl,b1,l⟩;refine f _ _ l ?_;clear f u;have a7:=O b1;have i:=O (q.trans (l.mono q.size));clear b1 l A a1 q;(try simp only[V]);refine gP (fun u f=>?_);go_simp;refine(qA false false ((g.den:Nat):Int) ((h.den:Nat):Int) b b' m m' d d' w4 (by exact(H.d.go o).go i) (by exact(K.d.go o).go i) (by rw[<- bW,aB];have:=a8.out;omega)).mono ?_;rintro e w5 ⟨s5,a5,n5,c5,rfl,E,D,_⟩;refine f _ _ D ?_;clear f u;rw[<- bW]at E
 have c9:s5=false:=by rw[E.1];exact aw (Int.not_lt.2 (dP _))
 subst c9;have S:=O (a7.go D);have a6:=O E;have r:=O (i.trans (D.mono i.size));clear E D a7 i;(try simp only[V]);refine gP (fun u f=>?_);go_simp;refine(sD sQ (g.num*h.den+h.num*g.den) (g.den*h.den) aQ a5 nQ n5 cQ c5 w5 (by exact S) (by exact a6) c8 (by have:=mW a6;rw[aB]at this;have:=a8.out;omega)).mono ?_;rintro e w6 ⟨s4,T,n4,c4,b4,m4,d4,rfl,P,N,l,f4,g4⟩;refine f _ _ l ?_;clear f u;rw[c6]at P N;have x:=r.trans (l.mono r.size);have h2:=(x.block _ l2).trans Q;have F:=r.size;have F4:=O (f4.mono F);have G4:=O (g4.mono F);have c7:=O P;have b6:=O N;have i:=O x;clear P N l x f4 g4 Q;obtain⟨d0,d1,d2,d3⟩:=gL h2;have f0:=gD h2 0;have f1:=gD h2 1;have f2:=gD h2 2;have f3:=gD h2 3;have Q:=O h2;clear h2;(try simp only[V]);refine iu rfl ?_;go_wp2_with fail;have W:=kl (s':=s4) (a':=T) (n':=n4) (c':=c4) (t':=false) (b':=b4) (m':=m4) (d':=d4) Q;obtain⟨k0,k1,X,k3⟩:=gL W;refine ar (v:=.agg #[s4,Z T n4 c4,false,Z b4 m4 d4]) ?_ rfl ?_
 .simp[results,results257,go_sem,k0,k1,X,k3]
 .have o4:mx w (w+3) T n4:=mx.ofFresh (F4.mono (by omega))
  have o5:mx w (w+3) b4 m4:=mx.ofFresh (G4.mono (by omega));exact⟨s4,T,n4,c4,b4,m4,d4,rfl,qY c7 o4 (show w.heap.size<=w.heap.size+2 by omega) (by omega),qY b6 o5 (show w.heap.size<=w.heap.size+2 by omega) (by omega),iR (o.trans (i.mono (by omega))) (by omega),F4.mono (by omega),G4.mono (by omega)⟩
