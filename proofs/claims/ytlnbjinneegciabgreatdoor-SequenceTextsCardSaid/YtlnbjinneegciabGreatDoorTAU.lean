import Derived.Test.YtlnbjinneegciabGreatDoorTAN
namespace Go.Proofs.YtlnbjinneegciabGreatDoor
set_option linter.all false
open Go.RowKit Go.Proofs.Tryz
def oJ.keep{base:Nat}{w w':World}{v:Value}{l:List gM}(h:oJ base w v l)(e:gN (fun b=>base<=b/\b<w.heap.size) w w')(d:w.heap.size<=w'.heap.size):oJ base w' v l:=by
 obtain⟨f,h1,h2,h3,a⟩:=h;exact⟨f,h1,h2.keep jX e d,h3,fun q c=>⟨(a q c).1,(a q c).2.1,af (a q c).2.2 d⟩⟩
def mj.bare{D:Nat->Prop}{w:World}{x:gR}{f v s k:iJ}(h:mj D w x f v s k):mj D w {x with cf:=[]} f v s ⟨none,0,0⟩:=by
 obtain⟨c,lo,hi,h1,h2,h3,a,h5,b,d⟩:=h.q;exact⟨⟨h.at'.fs,h.at'.ws,h.at'.l,RR.nil _ _ _ _ _ _,h.at'.fn,h.at'.wn,h.at'.sn,by show 0<=1000000;omega,h.at'.fc,h.at'.wc,h.at'.nm⟩,c,lo,hi,h1,h2,h3,a,h5,b,RR.nil _ _ _ _ _ _⟩
def mj.newl{D E:Nat->Prop}{w:World}{x:gR}{f v s k:iJ}(h:iP D w x f v s k){base:Nat}(g:∀b,D b->b<base){a:Option Addr}{n c:Nat}{l:List gM}(i:oJ base w (.slice a n c) l)(m:n<=1000000)(d:∀b,D b->E b)(e:∀b,base<=b->b<w.heap.size->E b):mj E w {x with l:=l,cf:=[]} f v ⟨a,n,c⟩ ⟨none,0,0⟩:=by
 obtain⟨o,h1,h2,h3,j⟩:=id i;refine⟨⟨h.fs.kept (gN.refl _ _) d,h.ws.kept (gN.refl _ _) d,(jD.rr2 iD i.r).kept iD (gN.refl _ _) (fun b hb=>e b hb.1 hb.2),RR.nil _ _ _ _ _ _,h.fn,h.wn,m,by show 0<=1000000;omega,h.fc,h.wc,h.nm⟩,o,base,w.heap.size,h1,(h2.rro jX).kept (BT jX _) (gN.refl _ _) (fun b hb=>e b hb.1 hb.2),h3,j,?_,?_,RR.nil _ _ _ _ _ _⟩
 .exact h.fs.kept (gN.refl _ _) (fun b hb=>⟨d b hb,VR (g b hb)⟩)
 .exact h.ws.kept (gN.refl _ _) (fun b hb=>⟨d b hb,VR (g b hb)⟩)
def Ey{α:Type}(R:pB α)(k:Nat)(T:TypeId)(S:Nat->Prop)(w:World)(v:Value)(l:List α):Prop:=
 ∃css:List (List Value),css.length=l.length/\(∀c∈css,c.length=k)/\w.ownsRow 0 T k v l.length css.flatten/\ ∀(i:Nat)(x:α)(cs:List Value),l[i]? =some x->css[i]? =some cs->R S w x cs
def A8{α:Type}(R:pB α)(k:Nat)(T:TypeId)(S:Nat->Prop)(e:Nat)(w:World)(v:Value)(l:List α):Prop:=
 ∃css:List (List Value),css.length=l.length/\(∀c∈css,c.length=k)/\w.ownsRow 0 T k v l.length css.flatten/\ ∀(i:Nat)(x:α)(cs:List Value),i≠e->l[i]? =some x->css[i]? =some cs->R S w x cs
def A8.keep{α:Type}{R:pB α}{k:Nat}(ok:kR k R){T:TypeId}{S a:Nat->Prop}{e:Nat}{w w':World}{v:Value}{l:List α}(h:A8 R k T S e w v l)(d:gN (fun b=>S b\/v.ownBlock=some b) w w')(n:∀b,S b->a b):A8 R k T a e w' v l:=by
 obtain⟨css,h1,h2,h3,f⟩:=h;refine⟨css,h1,h2,?_,fun i x cs m o j=>ok.kept (f i x cs m o j) (d.mono (fun b h=>VR h)) n⟩;obtain⟨l,r⟩:=h3;refine⟨l,r.imp id ?_⟩;rintro⟨g,cap,c,e,p,q,s⟩;exact⟨g,cap,c,e,p,(d g (VS (by rw[e];rfl))).trans q,s⟩
def A8.there{α:Type}{R:pB α}{k:Nat}{T:TypeId}{S:Nat->Prop}{e:Nat}{w:World}{g n c:Nat}{l:List α}(h:A8 R k T S e w (.slice (J g) n c) l){i:Nat}(hi:i<l.length):w.there g (i*k) k:=by
 obtain⟨css,h1,h2,h3,b⟩:=h;have a:jD (fun _ _ (_:α) _=>True) k T 0 w (.slice (J g) n c) l:=⟨css,h1,h2,h3,fun _ _ _ _ _=>trivial⟩;exact a.there hi
def Ey.form{α:Type}{R:pB α}{k:Nat}{T:TypeId}{S:Nat->Prop}{w:World}{v:Value}{l:List α}(h:Ey R k T S w v l)(h0:0<l.length):∃g cap,v=.slice (J g) l.length cap/\g<w.heap.size/\l.length<=cap:=by
 obtain⟨css,h1,h2,h3,d⟩:=h
 obtain ⟨e,e0⟩|⟨g,cap,c,e,f,a,b,_⟩:=h3.2
 .omega
 .exact⟨g,cap,e,TK a,b⟩
def Ey.rr{α:Type}{R:pB α}{k:Nat}(ok:kR k R){T:TypeId}{S d:Nat->Prop}{w:World}{g n c:Nat}{l:List α}(h:Ey R k T S w (.slice (J g) n c) l)(s:∀b,S b->d b)(q:d g):RR R k d w (J g) n c l:=by
 obtain⟨css,h1,h2,h3,p⟩:=h
 obtain ⟨e,_⟩|⟨y,cap,u,e,A,B,t,C,D,E⟩:=h3.2
 .cases e
 .cases e
  refine⟨rfl,t,fun z=>⟨g,0,rfl,q,fun i x o=>?_⟩⟩;have hi:i<l.length:=(TG.1 o).1;have a:css[i]? =some css[i]:=ae (by omega);refine⟨css[i],ok.kept (p i x _ o a) (gN.refl _ _) s,fun j v m=>?_⟩
  have r:j<k:=by
   have:=(TG.1 m).1;rw[h2 css[i] (cW _)]at this;exact this
  have f:=h3.cells (g:=g) rfl (i*k+j) v (by rw[mC css i _ j h2 a r];exact m);rw[Addr.add_mid,<- cN]at f;exact f
def A8.set{α:Type}{R:pB α}{k:Nat}(ok:kR k R){T:TypeId}{S:Nat->Prop}{w:World}{g n c:Nat}{l:List α}{i:Nat}(h:A8 R k T S i w (.slice (J g) n c) l)(C:¬S g)(hi:i<l.length){x:α}{cs:List Value}(u:R S w x cs):
 Ey R k T S (w.setCells g (i*k) cs) (.slice (J g) n c) (l.set i x):=by
 obtain⟨css,h1,h2,h3,A⟩:=h;have a:=ok.len u;have q:gN S w (w.setCells g (i*k) cs):=(gK g cs (i*k) w).mono (fun b h e=>C (e▸h));refine⟨css.set i cs,by simp[h1],?_,?_,?_⟩
 .intro d f
  obtain f|rfl:=bH f
  .exact h2 d f
  .exact a
 .rw[dL]
  obtain ⟨e,_⟩|⟨L,cap,p,e,D,E,v,F,H,K⟩:=h3.2
  .cases e
  .cases e
   have m:=Ui k (show i+1<=l.length from hi);rw[df]at m;have r:=Ui k v
   have t:(css.set i cs).flatten.length=l.length*k:=by
    rw[lK (k:=k) _ (fun d f=>by
     obtain f|rfl:=bH f
     .exact h2 d f
     .exact a),dL,h1]
   refine⟨t,VS ⟨g,c,_,rfl,D,tH E (i*k) cs (by rw[a,H];omega),v,F,?_,?_⟩⟩
   .simp[a];omega
   .have B:(p.toList.take (i*k)).length=i*k:=by rw[bn,cD (by simp;omega)]
    have s:(p.toList.take (i*k)++cs).length=i*k+k:=by rw[al,B,a]
    rw[tG css i cs h2 (by omega) a,<- K,fH,aM (by rw[s];exact m),s,List.take_take,cD (by omega),List.drop_take,a]
 .intro j y ds o f
  rw[cF]at o f;by_cases e:i=j
  .subst e
   rw[aq rfl,aq (by omega)]at o f;cases o;cases f;exact ok.kept u q (fun b h=>h)
  .rw[aj e]at o f
   exact ok.kept (A j y ds (fun z=>e z.symm) o f) q (fun b h=>h)
def GL{w:World}{gl:Nat}{T:TypeId}{cs:List Value}(h:w.heap[gl]? =some (.cells cs.toArray T (0,0))):∀j u,cs[j]? =some u->w.cell? ((⟨gl,0,none⟩:Addr).add j)=some u:=
 World.news_of_block (cs:=cs.toArray) (t:=T) (fr:=(0,0)) h
def Ba{g a n n' c c':Nat}{w w':World}(h:(Result.ok (Value.slice (J g) n c) w:Result Value)=.ok (Value.slice (J a) n' c') w'):g=a:=by cases h;rfl
def Bb{α:Type}{v a:α}{w w':World}(h:(Result.ok v w:Result α)=.ok a w'):w=w':=by cases h;rfl
def vq{ops:Array Oper}{D:List Oper}{o:Oper}{a:Act}{Q:Exit->Act->World->Prop}{w:World}{α:Type}{R:pB α}{k:Nat}(ok:kR k R){T H:TypeId}{z:Value}{p:Nat}(a6:prog.underlying H=some (.slice T))(hT:(prog.info? T).map (fun i=>(i.zero,i.size,i.bytes))=some (some z,k,p))(hz:z.cells.size=k)(hk:0<k)(a7:p<=10000)
 (a9:o.guard=none)(s x:Operand)(ho:o.op=.call {callee:=.builtin .append,args:=#[s,x],argTypes:=#[H,H]}){e0:Nat}(hs:a.eval s=.slice (J e0) 0 0)(he:w.heap[e0]? =some (.cells #[] T (0,0))){S:Nat->Prop}{ra:Option Addr}{n c:Nat}{l:List α}(f:a.eval x=.slice ra n c)(hr:RR R k S w ra n c l)(hn0:0<n)(hn:n<=1000000)(hS:∀b,S b->b<e0)
 (h:∀B w',Ey R k T S w' B l->w.grownBy w' (some e0)->(∀b,B.ownBlock=some b->e0<=b/\b<w'.heap.size)->(∀b off g,ra=some ⟨b,off,none⟩->B.ownBlock=some g-> ∀i cs,i<n->cs.length=k->w.rangeAt b (off+i*k) cs->w'.rangeAt g (i*k) cs)->wpList prog ops Q D (a.put o.dst B) w'):wpList prog ops Q (o::D) a w:=by
 obtain⟨b,off,e,hb,r⟩:=hr.2.2 hn0;have C:=hr.1
 have a8:∀i:Nat,i<l.length-> ∃cs,∀x,l[i]? =some x->R S w x cs/\w.rangeAt b (off+i*k) cs:=by
  intro i hi;obtain⟨cs,h1,h2⟩:=r i l[i] (ae hi);exact⟨cs,fun x f=>by rw[ae hi]at f;cases f;exact⟨h1,h2⟩⟩
 obtain⟨css,a0,t⟩:∃css:List (List Value),css.length=l.length/\ ∀(i:Nat)(x:α)(cs:List Value),l[i]? =some x->css[i]? =some cs->R S w x cs/\w.rangeAt b (off+i*k) cs:=by
  have:∀m,m<=l.length-> ∃css:List (List Value),css.length=m/\ ∀(i:Nat)(x:α)(cs:List Value),l[i]? =some x->css[i]? =some cs->R S w x cs/\w.rangeAt b (off+i*k) cs:=by
   intro m
   induction m with
   |zero=>exact fun _=>⟨[],rfl,fun i x cs _ r=>by simp at r⟩
   |succ m ih=>
    intro hm;obtain⟨css,h1,h2⟩:=ih (by omega);obtain⟨cs,h3⟩:=a8 m (by omega);refine⟨css++[cs],by simp[h1],fun i x ds f q=>?_⟩;rw[List.getElem?_append]at q;split at q
    .exact h2 i x ds f q
    .have:i=m:=by
      have:=(TG.1 q).1;simp at this;omega
     subst this;simp[h1]at q;subst q;exact h3 x f
  exact this l.length (ag _)
 have y:∀d∈css,d.length=k:=by
  intro d q;obtain⟨i,hi,rfl⟩:=dJ q;obtain⟨x,f⟩:∃x,l[i]? =some x:=⟨_,ae (by omega)⟩;exact ok.len (t i x _ f (ae hi)).1
 have a2:=lK (k:=k) css y;have hlt:=TK he;have M:w.ownsRow e0 T k (.slice (J e0) 0 0) 0 []:=⟨by simp,VS ⟨e0,0,#[],rfl,ag _,he,ag _,by unfold maxLen;omega,by simp,by simp⟩⟩
 have L:∀u∈css.flatten,u.oneCell'=true:=by
  intro u N;obtain⟨d,q,b4⟩:=eP.1 N;obtain⟨i,hi,rfl⟩:=dJ q;obtain⟨x,f⟩:∃x,l[i]? =some x:=⟨_,ae (by omega)⟩;exact ok.one (t i x _ f (ae hi)).1 u b4
 refine mS a9 s x H ho e0 T z k p a6 hT hz hk _ 0 [] hs M ra n c css.flatten f (by rw[a2,a0,C]) ?_ L (fun A=>by rw[e]at A;cases A) (by rw[aV];exact af (cB hn a7) (by omega)) (by omega) (cE hlt) ?_
 .intro _
  refine⟨b,off,e,fun j u hj=>?_⟩
  have b0:j<css.length*k:=by rw[<- a2];exact(TG.1 hj).1
  have v:j/k<css.length:=BF (by rw[gu];exact b0);obtain⟨x,f⟩:∃x,l[j/k]? =some x:=⟨_,ae (by omega)⟩;have W:=ae v
  have h5:=(t (j/k) x _ f W).2 (j%k) u (by
   rw[<- mC css (j/k) _ (j%k) y W (cx _ hk),gu (j/k) k,dc];exact hj)
  rw[show off+j=off+j/k*k+j%k by rw[gu (j/k) k,cN,dc]];exact h5
 .intro B w' h1 h2
  rw[aV,bD]at h1
  have a5:w'.ownsRow 0 T k B l.length css.flatten:=by
   rw[C];exact⟨h1.1,h1.2.imp id fun⟨g,cap,P,e,q1,q2⟩=>⟨g,cap,P,e,aA _,q2⟩⟩
  refine h B w' ⟨css,a0,y,a5,fun i x cs f r=>ok.kept (t i x cs f r).1 ((nW h2).mono (fun b hb=>⟨Nat.lt_trans (hS b hb) hlt,fun A=>?_⟩)) (fun b h=>h)⟩ h2 (fun b hb=>h1.lt b hb) ?_;rotate_left
  .intro b2 b5 g A E i cs hi K b1 j u N
   rw[e]at A;cases A
   have v:j<k:=by rw[<- K];exact(TG.1 N).1
   obtain⟨x,f⟩:∃x,l[i]? =some x:=⟨_,ae (by omega)⟩;have X:css[i]? =some css[i]:=ae (by omega);have a1:css[i].length=k:=y _ (cW _);obtain⟨F,a4⟩:∃F,css[i][j]? =some F:=⟨css[i][j]'(by rw[a1];exact v),ae (by rw[a1];exact v)⟩;have b3:=(t i x _ f X).2 j F a4;have a3:=b1 j u N
   have e4:F=u:=by rw[b3]at a3;exact aE a3
   subst e4
   obtain ⟨e5,_⟩|⟨g',cap,P,e5,_⟩:=h1.2
   .rw[e5]at E;cases E
   .subst e5
    have e6:g'=g:=by simpa[Value.ownBlock]using E
    subst e6;have r:=h1.cells (g:=g') rfl (i*k+j) F (by rw[mC css i _ j y X v];exact a4);rw[Addr.add_mid,aV]at r;exact r
  have e3:e0=b:=by simpa[Value.ownBlock]using A
  have:=hS b hb;omega
def vt{ops:Array Oper}{k:List Oper}{o:Oper}{a:Act}{Q:Exit->Act->World->Prop}{w:World}(H:o.guard=none)(s x:Operand)
 (T:o.op=.call {callee:=.builtin .append,args:=#[s,x],argTypes:=#[56,56]}){S:Nat->Prop}{fa:Option Addr}{n c:Nat}{xs:List Int}(q0 q1 q2:Int){gl:Nat}
 (hs:a.eval s=.slice fa n c)(hown:jN S w fa n c xs)(hx:a.eval x=.slice (J gl) 1 1)(hg:w.heap[gl]? =some (.cells #[q0,q1,q2] 60 (0,0)))(hlen:n<=10000000)(hS:∀b,S b->b<w.heap.size)
 (h:∀z c' w',jN (fun b=>S b\/(w.heap.size<=b/\b<w'.heap.size)) w' z (n+1) c' (xs++[q0,q1,q2])->gN (fun b=>b<w.heap.size/\ ¬S b) w w'->(∀g,(Value.slice fa n c).ownBlock=some g-> ∀j,j<n*3->w'.cell? ⟨g,j,none⟩=w.cell? ⟨g,j,none⟩)->w.grownBy w' (Value.slice fa n c).ownBlock->wpList prog ops Q k (a.put o.dst (.slice z (n+1) c')) w'):
 wpList prog ops Q (o::k) a w:=by
 obtain⟨i,r,A,d,B⟩:=sd Tryz.infoFilm3;have t:=GL (cs:=[.int .i64 q0,.int .i64 q1,.int .i64 q2]) hg
 obtain⟨C,v,w',D,h2,h3,q,h5⟩:=run_append_lies (P:=prog) w 56 o.type 0 60 i _ 3 24 underlying56 r A d B rfl (by omega) _ n _ hown.1
  (J gl) 1 1 [q0,q1,q2] rfl t (by simp[Value.oneCell']) (by omega) (by unfold maxLen;omega) (by omega) (aA _) _ rfl
 have l:∀g,(Value.slice fa n c).ownBlock=some g-> ∀j,j<n*3->w'.cell? ⟨g,j,none⟩=w.cell? ⟨g,j,none⟩:=by
  intro g f j M
  obtain ⟨e,_⟩|⟨g2,cap,E,e,_,y,_,_,F,_⟩:=hown.1.2
  .rw[e]at f;cases f
  .rw[e]at f
   have N:g2=g:=by simpa[Value.ownBlock]using f
   subst N;cases e;by_cases m:n+1<=c
   .have u:=run_append_room (P:=prog) w 56 o.type 60 i underlying56 r g2 n c E y (J gl) 1 1 [q0,q1,q2] (by rw[d];rfl) t (by simp[Value.oneCell']) m (by rw[d,F];simp;omega)
    obtain rfl:=Ba (D.symm.trans u);have a1:=World.ownsRow.cellAt h2 j (by omega);have a2:=World.ownsRow.cellAt hown.1 j M;rw[a1,a2,aF (by rw[hown.1.1];exact M)]
   .obtain⟨W,X,u,_,L⟩:=run_append_arg_grows (P:=prog) w 56 o.type 60 i _ 3 24 underlying56 r A d B rfl (by omega) (J g2) n c (xs.map (Value.int .i64)) hown.1.1 (World.ownsRow.cells hown.1 rfl)
     (J gl) 1 1 [q0,q1,q2] rfl t (by omega) (by unfold maxLen;omega) (by omega)
    obtain rfl:=Bb (D.symm.trans u);have hlt:=(hown.1.lt g2 rfl).2;exact(nW L).cell (p:=⟨g2,j,none⟩) ⟨hlt,by simp⟩
 refine eT H fun K R=>?_
 unfold Oper.wp;simp[execOp,T,resolve,invoke,builtin,hs,hx,D,Result.andThen];refine R _ _ (h (J C) v w' ⟨by rw[aT];exact h2,fun b hb=>?_⟩ ?_ l h3)
 .have e:C=b:=by simpa[Value.ownBlock]using hb
  subst e
  obtain q|q:=q
  .exact VR (hown.2 C q)
  .exact VS ⟨Nat.le_of_eq q.symm,h5⟩
 .exact(nW h3).mono (fun b hb=>⟨hb.1,fun e=>hb.2 (hown.2 b e)⟩)
def wX(D:Nat->Prop)(a:Option Addr)(n c:Nat):Nat->Prop:=fun b=>D b/\(Value.slice a n c).ownBlock≠some b
structure yC (D:Nat->Prop) (w:World) (y:gR) (f v s k:iJ) (lq:List jT) (kk:Nat) (q:jT) (a:Option Addr) (n c b off:Nat):Prop where
 eq:qt lq=y.l
 rr:RR (Sh rL (Value.slice s.a s.n s.c).ownBlock) 22 D w s.a s.n s.c lq
 ap:qu lq
 at':lq[kk]? =some q
 sa:s.a=some ⟨b,off,none⟩
 row:w.rangeAt b (off+kk*22) (gX q.y.s a n c)
 db:D b
 film:jN (fun b=>(D b/\(Value.slice s.a s.n s.c).ownBlock≠some b)/\q.lo<=b/\b<q.hi) w a n c q.y.zs
 gl:q.y.s.gA.size<=9223372036854775807
 cn:n<=1000000
 fs:IRp (wX D a n c) w 2 f.a f.n f.c y.fs
 ws:IRp (wX D a n c) w 2 v.a v.n v.c y.ws
 cf:RR oB 2 (wX D a n c) w k.a k.n k.c y.cf
def mj.pick{D:Nat->Prop}{w:World}{y:gR}{f v s k:iJ}(h:mj D w y f v s k){j:Nat}(t:j<s.n):∃g q a n c b off,yC D w y f v s k g j q a n c b off:=by
 obtain⟨g,lo,hi,h1,h2,h3,m,h5,o,p⟩:=h.q;obtain⟨b,off,q,cs,e,hb,i,⟨a,n,c,rfl,hf,u,r⟩,x⟩:=h2.at t;have z:=m q (aL i)
 have d:∀b,D b/\(b<lo\/hi<=b)->wX D a n c b:=fun b hb=>⟨hb.1,fun l=>by
  have:=(hf.2 b l).2
  obtain h|h:=hb.2<;>omega⟩
 exact⟨g,q,a,n,c,b,off,h1,h2,h3,i,e,x,hb,hf,r,u,h5.kept (gN.refl _ _) d,o.kept (gN.refl _ _) d,p.kept ky (gN.refl _ _) d⟩
def yC.other{D:Nat->Prop}{w:World}{y:gR}{f v s k:iJ}{g:List jT}{d:Nat}{q:jT}{a:Option Addr}{n c b off:Nat}(h:yC D w y f v s k g d q a n c b off){i:Nat}{x:jT}{w':World}{cs:List Value}(hi:i≠d)(p:g[i]? =some x)(o:Sh rL (Value.slice s.a s.n s.c).ownBlock D w' x cs):jE (wX D a n c) w' x.y cs:=by
 obtain⟨a',n',c',e,hf,m,l⟩:=o;refine⟨a',n',c',e,hf.irp.kept (gN.refl _ _) (fun b hb=>⟨hb.1.1,fun j=>?_⟩),m,hf.none,l⟩;have h1:=(h.film.2 b j).2
 obtain h2|h2:=h.ap i d x q p h.at' hi
 .have:=hb.2;omega
 .have:=hb.2;omega
def yC.rowY{D:Nat->Prop}{w w':World}{y:gR}{f v s k:iJ}{g:List jT}{e:Nat}{q:jT}{a:Option Addr}{n c b off:Nat}(h:yC D w y f v s k g e q a n c b off){T:TypeId}{u:Value}(o:Ey (Sh rL (Value.slice s.a s.n s.c).ownBlock) 22 T D w' u g):A8 jE 22 T (wX D a n c) e w' u y.l:=by
 obtain⟨css,h1,h2,h3,j⟩:=o;rw[<- h.eq];refine⟨css,by rw[mD];exact h1,h2,by rw[mD];exact h3,fun i x cs hi p m=>?_⟩;obtain⟨z,d,rfl⟩:=CW p;exact h.other hi d (j i z cs d m)
def yC.notrow{D:Nat->Prop}{w:World}{y:gR}{f v s k:iJ}{g:List jT}{e:Nat}{q:jT}{a:Option Addr}{n c b off:Nat}(h:yC D w y f v s k g e q a n c b off):wX D a n c b:=
 ⟨h.db,fun d=>(h.film.2 b d).1.2 (by rw[h.sa];rfl)⟩
def yC.still{D:Nat->Prop}{w w':World}{y:gR}{f v s k:iJ}{X:List jT}{N:Nat}{q:jT}{a:Option Addr}{n c b off:Nat}(h:yC D w y f v s k X N q a n c b off)(h0:iP D w y f v s k)(d:gN (wX D a n c) w w')(R:∀g,(Value.slice a n c).ownBlock=some g-> ∀j,j<n*3->w'.cell? ⟨g,j,none⟩=w.cell? ⟨g,j,none⟩):iP D w' y f v s k:=by
 refine⟨h.fs.kept d (fun b hb=>hb.1),h.ws.kept d (fun b hb=>hb.1),?_,h.cf.kept ky d (fun b hb=>hb.1),h0.fn,h0.wn,h0.sn,h0.kn,h0.fc,h0.wc,h0.nm⟩;refine⟨h0.l.1,h0.l.2.1,fun S=>⟨b,off,h.sa,h.db,fun i x M=>?_⟩⟩;rw[<- h.eq]at M;obtain⟨z,o,rfl⟩:=CW M;obtain⟨b2,P,A,a1,r⟩:=h.rr.2.2 S;rw[h.sa]at A;cases A;by_cases hi:i=N
 .subst hi
  rw[h.at']at o;cases o;have m:=h.film.irp;refine⟨gX q.y.s a n c,⟨a,n,c,rfl,⟨m.1,m.2.1,fun C=>?_⟩,?_,h.film.none,h.gl⟩,fun j u W=>(d.cell (p:=⟨b,off+i*22+j,none⟩) h.notrow).trans (h.row j u W)⟩
  .obtain ⟨e,B⟩|⟨g,cap,a0,e,_⟩:=h.film.1.2
   .cases e;omega
   .cases e
    have t:(Value.slice (J g) n c).ownBlock=some g:=rfl;refine⟨g,0,rfl,(h.film.2 g t).1.1,fun j F=>?_⟩;obtain⟨b5,o5,Q,_,E⟩:=m.2.2 C;cases Q;rw[aV,R g t j F];have:=E j F;rw[aV]at this;exact this
  .obtain⟨cs,⟨a',n',c',e,hf,H,a2⟩,T⟩:=r i q h.at'
   subst e;have B:some (Value.slice a' n' c')=some (Value.slice a n c):=(T 21 _ rfl).symm.trans (h.row 21 _ rfl);cases B;exact H
 .obtain⟨cs,K,L⟩:=r i z o
  refine⟨cs,iD.kept (h.other hi o K) d (fun b hb=>hb.1),jb L d h.notrow⟩
structure Ez (D:Nat->Prop) (w w':World):Prop where
 os:w'.os=w.os
 tape:w'.tape=w.tape
 output:w'.output=w.output
 size:w.heap.size<=w'.heap.size
 kept:gN (fun b=>b<w.heap.size/\ ¬D b) w w'
def Ez.below{D:Nat->Prop}{w w':World}(h:Ez D w w'){B:Nat}(a:∀b,D b->B<=b)(d:B<=w.heap.size):Below B w w':=
 ⟨h.os,h.tape,h.output,h.size,fun b hb=>h.kept b ⟨by omega,fun c=>by have:=a b c;omega⟩⟩
