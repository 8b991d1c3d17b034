import Derived.Test.YtgohdcccfkjooaaGreatDoorSAM
import Derived.Test.YtgohdcccfkjooaaGreatDoorSAE
import Derived.Test.YtgohdcccfkjooaaGreatDoorSAO
import Derived.Test.YtgohdcccfkjooaaGreatDoorSAN
import Derived.Test.YtgohdcccfkjooaaGreatDoorSAI
namespace Go.Proofs.YtgohdcccfkjooaaGreatDoor
set_option linter.all false
set_option maxRecDepth 100000
set_option maxHeartbeats 6400000
open Go.Proofs.Tryz Go.RowKit
def jD.sl{α R k T base w}{v:Value}{l:List α}(h:jD R k T base w v l):∃a c,v=.slice a l.length c/\(a=none->c=0):=by
 obtain ⟨rfl,rfl⟩|⟨g,cap,rfl,_⟩:=h.form
 .exact⟨none,0,rfl,fun _=>rfl⟩
 .exact⟨_,cap,rfl,fun e=>by cases e⟩
def zx{l zs}:∀{n:Nat}{l':List gM},tu l zs n=some l'->l'.length=l.length:=by
 intro n
 induction n with
 |zero=>intro l' h;cases h;rfl
 |succ n a=>
  intro l' h;rw[tu]at h
  cases hc:tu l zs n with
  |none=>rw[hc]at h;cases h
  |some m=>
   rw[hc]at h;simp only[aO]at h;split at h
   .cases h
    rw[xP];exact a hc
   .cases h
def Pq(w:World)(l:List gM)(zs:List Int)(n:Nat)(e:Ending)(w':World):Prop:=
 (tu l zs n=none/\e=.returned (.tuple #[oN,false])/\Below w w w')\/
 (∃l' v,tu l zs n=some l'/\e=.returned (.tuple #[v,.bool (decide (n<=12))])/\oJ w w' v l'/\Below w w w')
def MQ(l a n c i p v w)(h:RR jE 22 (fun b=>b<w.heap.size) w a n c l)(f:n<=1000000)(h0:nT l i p v=false):
 Calls prog 148 #[Z a n c,i,p,v] w (fun e w'=>e=.returned (.tuple #[oN,false])/\Below w w w'):=
 (UW l a n c i p v w h f).mono (by
   rintro e w' (⟨_,h,d⟩|⟨h1,_⟩)
   .exact⟨h,d⟩
   .rw[h0]at h1;cases h1)
def Kq(l a n c i p v w)(h:RR jE 22 (fun b=>b<w.heap.size) w a n c l)(d:n<=1000000)(h0:nT l i p v=true):
 Calls prog 148 #[Z a n c,i,p,v] w (fun e w'=>∃g c,e=.returned (.tuple #[Z (J g) l.length c,true])/\oJ w w' (.slice (J g) l.length c) (qy l i p v)/\Below w w w'):=
 (UW l a n c i p v w h d).mono (by
   rintro e w' (⟨h1,_⟩|⟨_,h⟩)
   .rw[h0]at h1;cases h1
   .exact h)
def wW(l zs a b m d n c w)(h:RR jE 22 (fun b=>b<w.heap.size) w a m d l)(hm:m<=1000000)(hz:IR w w 3 b n c zs)(hn:n<=1000000):
 Calls prog 106 #[Z a m d,Z b n c] w (Pq w l zs n):=by
 have H:=O h;have Hz:=O hz;have B:=h.1;have a9:=hz.2.1;clear h hz;go_enter func106,ntmps106
 go_wp2_with((with_reducible refine(zu l a m d _ H.out hm).mono ?_);rintro e w1 ⟨v1,rfl,x,K⟩;have Ho:=O x;have Hb:=O K;clear x K)
 go_loopw [6,7] (fun v y wr=>∃k l',k<=n/\y=.int .i64 (k:Int)/\tu l zs k=some l'/\oJ w wr v l'/\Below w w wr) (fun _ y _=>n-(intOf y).toNat)
 case atStart=>exact⟨0,l,by omega,rfl,rfl,Ho,Hb⟩
 case round=>
  obtain⟨k,l',hk,rfl,L,x,K⟩:=hrel;obtain⟨sa,sc,rfl,-⟩:=x.r.sl;have W:=zx L;rw[W,B]at x⊢;have S:=O L;have F:=O x;have q:=O K;clear L x K;by_cases a6:k<n
  .have N:=Hz.go q
   have a3:=O N;obtain⟨b1,off,rfl,hlt,x0,x1,x2⟩:=N.at3 a6;clear N
   have X:tu l zs (k+1)=if oK zs k (zs.getD (k*3) 0) (zs.getD (k*3+1) 0)=false/\nT l' (zs.getD (k*3) 0) (zs.getD (k*3+1) 0) (zs.getD (k*3+2) 0)=true then some (qy l' (zs.getD (k*3) 0) (zs.getD (k*3+1) 0) (zs.getD (k*3+2) 0))else none:=by
    rw[tu,S];rfl
   have E:=O X;clear X;generalize zs.getD (k*3) 0=s0 at*;generalize zs.getD (k*3+1) 0=p0 at*;generalize zs.getD (k*3+2) 0=v0 at*
   have T:∀j,j<k->zs.getD (j*3) 0=s0/\zs.getD (j*3+1) 0=p0->tu l zs n=none:=by
    rintro j hj ⟨h1,h2⟩;refine vU (k:=k+1) ?_ (by omega);rw[E,aj];rw[show oK zs k s0 p0=true from lM (f:=fun k=>(zs.getD (k*3) 0==s0)&& (zs.getD (k*3+1) 0==p0)) hj (by simp only[h1,h2];simp)];simp
   have a0:=O T;clear T;have u:Below wr wr (wr.alloc (.cells #[s0,p0,v0] 72)):=(TH _ _).alloc (aa _) _;have p:=TL wr (.cells #[s0,p0,v0] 72);have i:=O u;have z:=O p;clear u p;obtain⟨P,rfl⟩:∃P:World,P=wr:=⟨_,rfl⟩;go_wp2_with fail;clear x0 x1 x2
   go_loopw [9] (fun y wq=>∃j:Nat,j<=k/\y=.int .i64 (j:Int)/\(List.range j).any (fun k=>(zs.getD (k*3) 0==s0)&& (zs.getD (k*3+1) 0==p0))=false/\wq.heap[P.heap.size]? =some (.cells #[s0,p0,v0] 72 (0,0))/\Below P P wq) (fun y _=>k-(intOf y).toNat)
   case atStart=>exact⟨0,by omega,rfl,rfl,z,i⟩
   case round=>
    clear z i;obtain⟨j,hj,rfl,hd,p,u⟩:=hrel;have a8:=TK p;obtain⟨q0,q1,q2⟩:=kE p;have Hd:=O hd;have z:=O p;have i:=O u;clear hd p u;by_cases a5:j<k
    .obtain⟨b2,o2,e2,a7,z0,z1,z2⟩:=(a3.go i).at3 (k:=j) (by omega)
     cases e2
     have C:((zs.getD (j*3) 0==s0)&& (zs.getD (j*3+1) 0==p0))=false->(List.range (j+1)).any (fun k=>(zs.getD (k*3) 0==s0)&& (zs.getD (k*3+1) 0==p0))=false:=fun e=>(lL (f:=fun k=>(zs.getD (k*3) 0==s0)&& (zs.getD (k*3+1) 0==p0)) Hd).trans e
     have o:=a0 j a5;clear z2;generalize zs.getD (j*3) 0=r0 at z0 C o;generalize zs.getD (j*3+1) 0=r1 at z1 C o;have a1:=O C;have R:=O o;clear C o q2;cases w0:(r0==s0) <;>cases w1:(r1==p0)
     all_goals
      go_wp2_with fail
      go_quiet (fail)
      go_wp2_with fail
     iterate 3
      .go_roundw
       case rel=>exact⟨j+1,by omega,by go_num,a1 (by rw[w0,w1];rfl),by rw[World.heap_drewN];exact z,gV i _⟩
       case measure=>simp[intOf];omega
     .go_ret2
      exact VR ⟨R ⟨by simpa using w0,by simpa using w1⟩,rfl,I q (gV i _)⟩
    .obtain rfl:j=k:=by omega
     have A:oK zs j s0 p0=false:=Hd.out;have Q:=O A;clear A;cases hpu:nT l' s0 p0 v0
     .have s:=O hpu;clear hpu
      go_wp2_with((with_reducible refine(MQ l' sa m sc s0 p0 v0 _ ((F.out.r.rr iD).go iD i.out) hm s.out).mono ?_);rintro e w3 ⟨rfl,t⟩;have D:=O t;clear t)
      go_ret2;refine VR ⟨vU (k:=j+1) ?_ (by omega),rfl,I q (I i D)⟩;rw[E,aj (by rw[s];simp)]
     .have s:=O hpu;clear hpu
      go_wp2_with((with_reducible refine(Kq l' sa m sc s0 p0 v0 _ ((F.out.r.rr iD).go iD i.out) hm s.out).mono ?_);rintro e w3 ⟨g,c3,rfl,M,t⟩;have D:=O t;rw[W,B]at M;have a2:=O (M.down (af q.size i.size));clear t M)
      go_roundw
      case rel=>exact⟨j+1,qy l' s0 p0 v0,by omega,by go_num,by rw[E,aq ⟨Q,s⟩],a2,I q (I i D)⟩
      case measure=>simp[intOf];omega
  .obtain rfl:k=n:=by omega
   by_cases a4:k<=12
   all_goals
    go_wp2;go_ret2;exact VS ⟨l',_,S,by simp[a4] <;>omega,F,q⟩
def oJ.keep{base w w' v l}(h:oJ base w v l)(e:gN (fun b=>base<=b/\b<w.heap.size) w w')(d:w.heap.size<=w'.heap.size):oJ base w' v l:=by
 obtain⟨f,h1,h2,h3,a⟩:=h;exact⟨f,h1,h2.keep jX e d,h3,fun q c=>⟨(a q c).1,(a q c).2.1,af (a q c).2.2 d⟩⟩
def mj.bare{D:Nat->Prop}{w x f v s k}(h:mj D w x f v s k):mj D w {x with cf:=[]} f v s ⟨none,0,0⟩:=by
 obtain⟨c,lo,hi,h1,h2,h3,a,h5,b,d⟩:=h.q;exact⟨⟨h.at'.fs,h.at'.ws,h.at'.l,RR.nil _ _ _ _ _ _,h.at'.fn,h.at'.wn,h.at'.sn,by show 0<=1000000;omega,h.at'.fc,h.at'.wc,h.at'.nm⟩,c,lo,hi,h1,h2,h3,a,h5,b,RR.nil _ _ _ _ _ _⟩
def mj.newl{D E:Nat->Prop}{w x f v s k}(h:iP D w x f v s k){base}(i:∀b,D b->b<base){a n c l}(j:oJ base w (.slice a n c) l)(o:n<=1000000)(e:∀b,D b->E b)(g:∀b,base<=b->b<w.heap.size->E b):mj E w {x with l:=l,cf:=[]} f v ⟨a,n,c⟩ ⟨none,0,0⟩:=by
 obtain⟨p,h1,h2,h3,m⟩:=id j;refine⟨⟨h.fs.kept (gN.refl _ _) e,h.ws.kept (gN.refl _ _) e,(jD.rr2 iD j.r).kept iD (gN.refl _ _) (fun b d=>g b d.1 d.2),RR.nil _ _ _ _ _ _,h.fn,h.wn,o,by show 0<=1000000;omega,h.fc,h.wc,h.nm⟩,p,base,w.heap.size,h1,(h2.rro jX).kept (BT jX _) (gN.refl _ _) (fun b d=>g b d.1 d.2),h3,m,?_,?_,RR.nil _ _ _ _ _ _⟩
 .exact h.fs.kept (gN.refl _ _) (fun b d=>⟨e b d,VR (i b d)⟩)
 .exact h.ws.kept (gN.refl _ _) (fun b d=>⟨e b d,VR (i b d)⟩)
def Ey{α:Type}(R:pB α)(k:Nat)(T:TypeId)(S:Nat->Prop)(w:World)(v:Value)(l:List α):Prop:=
 ∃css:List (List Value),css.length=l.length/\(∀c∈css,c.length=k)/\w.ownsRow 0 T k v l.length css.flatten/\ ∀(i:Nat)(x:α)(cs:List Value),l[i]? =some x->css[i]? =some cs->R S w x cs
def A8{α:Type}(R:pB α)(k:Nat)(T:TypeId)(S:Nat->Prop)(e:Nat)(w:World)(v:Value)(l:List α):Prop:=
 ∃css:List (List Value),css.length=l.length/\(∀c∈css,c.length=k)/\w.ownsRow 0 T k v l.length css.flatten/\ ∀(i:Nat)(x:α)(cs:List Value),i≠e->l[i]? =some x->css[i]? =some cs->R S w x cs
def A8.keep{α R k}(ok:kR k R){T}{S a:Nat->Prop}{e w w'}{v:Value}{l:List α}(h:A8 R k T S e w v l)(d:gN (fun b=>S b\/v.ownBlock=some b) w w')(n:∀b,S b->a b):A8 R k T a e w' v l:=by
 obtain⟨css,h1,h2,h3,f⟩:=h;refine⟨css,h1,h2,?_,fun i x cs m o j=>ok.kept (f i x cs m o j) (d.mono (fun b h=>VR h)) n⟩;obtain⟨l,r⟩:=h3;refine⟨l,r.imp id ?_⟩;rintro⟨g,cap,c,e,p,q,s⟩;exact⟨g,cap,c,e,p,(d g (VS (by rw[e];rfl))).trans q,s⟩
def A8.there{α R k T}{S:Nat->Prop}{e w}{g n c:Nat}{l:List α}(h:A8 R k T S e w (.slice (J g) n c) l){i:Nat}(hi:i<l.length):w.there g (i*k) k:=by
 obtain⟨css,h1,h2,h3,b⟩:=h;have a:jD (fun _ _ (_:α) _=>True) k T 0 w (.slice (J g) n c) l:=⟨css,h1,h2,h3,fun _ _ _ _ _=>trivial⟩;exact a.there hi
def Ey.form{α R k T}{S:Nat->Prop}{w v}{l:List α}(h:Ey R k T S w v l)(h0:0<l.length):∃g cap,v=.slice (J g) l.length cap/\g<w.heap.size/\l.length<=cap:=by
 obtain⟨css,h1,h2,h3,d⟩:=h
 obtain ⟨e,e0⟩|⟨g,cap,c,e,f,a,b,_⟩:=h3.2
 .omega
 .exact⟨g,cap,e,TK a,b⟩
def Ey.rr{α R k}(ok:kR k R){T}{S d:Nat->Prop}{w g n c}{l:List α}(h:Ey R k T S w (.slice (J g) n c) l)(s:∀b,S b->d b)(q:d g):RR R k d w (J g) n c l:=by
 obtain⟨css,h1,h2,h3,p⟩:=h
 obtain ⟨e,_⟩|⟨y,cap,u,e,A,B,t,C,D,E⟩:=h3.2
 .cases e
 .cases e
  refine⟨rfl,t,fun z=>⟨g,0,rfl,q,fun i x o=>?_⟩⟩;have hi:i<l.length:=(TG.1 o).1;have a:css[i]? =some css[i]:=ae (by omega);refine⟨css[i],ok.kept (p i x _ o a) (gN.refl _ _) s,fun j v m=>?_⟩
  have r:j<k:=by
   have:=(TG.1 m).1;rw[h2 css[i] (cW _)]at this;exact this
  have f:=h3.cells (g:=g) rfl (i*k+j) v (by rw[mC css i _ j h2 a r];exact m);rw[Addr.add_mid,<- cN]at f;exact f
def A8.set{α R k}(ok:kR k R){T}{S:Nat->Prop}{w g n c}{l:List α}{i:Nat}(h:A8 R k T S i w (.slice (J g) n c) l)(C:¬S g)(hi:i<l.length){x:α}{cs:List Value}(u:R S w x cs):
 Ey R k T S (w.setCells g (i*k) cs) (.slice (J g) n c) (l.set i x):=by
 obtain⟨css,h1,h2,h3,A⟩:=h;have a:=ok.len u;have q:gN S w (w.setCells g (i*k) cs):=(gK g cs (i*k) w).mono (fun b h e=>C (e▸h));refine⟨css.set i cs,by simp[h1],?_,?_,?_⟩
 .intro d f
  obtain f|rfl:=bH f
  .exact h2 d f
  .exact a
 .rw[dL]
  obtain ⟨e,_⟩|⟨L,cap,p,e,D,E,v,F,H,K⟩:=h3.2
  .cases e
  .cases e
   have m:=Ui k (show i+1<=l.length from hi);rw[df]at m;have r:=Ui k v
   have t:(css.set i cs).flatten.length=l.length*k:=by
    rw[lK (k:=k) _ (fun d f=>by
     obtain f|rfl:=bH f
     .exact h2 d f
     .exact a),dL,h1]
   refine⟨t,VS ⟨g,c,_,rfl,D,tH E (i*k) cs (by rw[a,H];omega),v,F,?_,?_⟩⟩
   .simp[a];omega
   .have B:(p.toList.take (i*k)).length=i*k:=by rw[bn,cD (by simp;omega)]
    have s:(p.toList.take (i*k)++cs).length=i*k+k:=by rw[al,B,a]
    rw[tG css i cs h2 (by omega) a,<- K,fH,aM (by rw[s];exact m),s,List.take_take,cD (by omega),List.drop_take,a]
 .intro j y ds o f
  rw[cF]at o f;by_cases e:i=j
  .subst e
   rw[aq rfl,aq (by omega)]at o f;cases o;cases f;exact ok.kept u q (fun b h=>h)
  .rw[aj e]at o f
   exact ok.kept (A j y ds (fun z=>e z.symm) o f) q (fun b h=>h)
def GL{w:World}{gl T}{cs:List Value}(h:w.heap[gl]? =some (.cells cs.toArray T (0,0))):∀j u,cs[j]? =some u->w.cell? ((⟨gl,0,none⟩:Addr).add j)=some u:=
 World.news_of_block (cs:=cs.toArray) (t:=T) (fr:=(0,0)) h
def Ba{g a n n' c c' w w'}(h:(Result.ok (Value.slice (J g) n c) w:Result Value)=.ok (Value.slice (J a) n' c') w'):g=a:=by cases h;rfl
def Bb{α v a w w'}(h:(Result.ok v w:Result α)=.ok a w'):w=w':=by cases h;rfl
def vq{ops D o a}{Q:Exit->Act->World->Prop}{w α}{R:pB α}{k:Nat}(ok:kR k R){T K:TypeId}{z:Value}{p:Nat}(a7:prog.underlying K=some (.slice T))(hT:(prog.info? T).map (fun i=>(i.zero,i.size,i.bytes))=some (some z,k,p))(hz:z.cells.size=k)(hk:0<k)(a8:p<=10000)(b0:o.guard=none)(s x:Operand)(ho:o.op=.call {callee:=.builtin .append,args:=#[s,x],argTypes:=#[K,K]}){e0:Nat}(hs:a.eval s=.slice (J e0) 0 0)(he:w.heap[e0]? =some (.cells #[] T (0,0))){S:Nat->Prop}{ra:Option Addr}{n c:Nat}{l:List α}(f:a.eval x=.slice ra n c)(hr:RR R k S w ra n c l)(hn0:0<n)(hn:n<=1000000)(hS:∀b,S b->b<e0)(h:∀B w',Ey R k T S w' B l->w.grownBy w' (some e0)->(∀b,B.ownBlock=some b->e0<=b/\b<w'.heap.size)->(∀b off g,ra=some ⟨b,off,none⟩->B.ownBlock=some g-> ∀i cs,i<n->cs.length=k->w.rangeAt b (off+i*k) cs->w'.rangeAt g (i*k) cs)->wpList prog ops Q D (a.put o.dst B) w'):wpList prog ops Q (o::D) a w:=by
 obtain⟨b,off,e,E,r⟩:=hr.2.2 hn0;have C:=hr.1
 have a9:∀i:Nat,i<l.length-> ∃cs,∀x,l[i]? =some x->R S w x cs/\w.rangeAt b (off+i*k) cs:=by
  intro i hi;obtain⟨cs,h1,h2⟩:=r i l[i] (ae hi);exact⟨cs,fun x f=>by rw[ae hi]at f;cases f;exact⟨h1,h2⟩⟩
 obtain⟨css,a1,t⟩:∃css:List (List Value),css.length=l.length/\ ∀(i:Nat)(x:α)(cs:List Value),l[i]? =some x->css[i]? =some cs->R S w x cs/\w.rangeAt b (off+i*k) cs:=by
  have:∀m,m<=l.length-> ∃css:List (List Value),css.length=m/\ ∀(i:Nat)(x:α)(cs:List Value),l[i]? =some x->css[i]? =some cs->R S w x cs/\w.rangeAt b (off+i*k) cs:=by
   intro m
   induction m with
   |zero=>exact fun _=>⟨[],rfl,fun i x cs _ r=>by simp at r⟩
   |succ m ih=>
    intro hm;obtain⟨css,h1,h2⟩:=ih (by omega);obtain⟨cs,h3⟩:=a9 m (by omega);refine⟨css++[cs],by simp[h1],fun i x ds f q=>?_⟩;rw[List.getElem?_append]at q;split at q
    .exact h2 i x ds f q
    .have:i=m:=by
      have:=(TG.1 q).1;simp at this;omega
     subst this;simp[h1]at q;subst q;exact h3 x f
  exact this l.length (aa _)
 have y:∀d∈css,d.length=k:=by
  intro d q;obtain⟨i,hi,rfl⟩:=dJ q;obtain⟨x,f⟩:∃x,l[i]? =some x:=⟨_,ae (by omega)⟩;exact ok.len (t i x _ f (ae hi)).1
 have a3:=lK (k:=k) css y;have hlt:=TK he;have N:w.ownsRow e0 T k (.slice (J e0) 0 0) 0 []:=⟨by simp,VS ⟨e0,0,#[],rfl,aa _,he,aa _,by unfold maxLen;omega,by simp,by simp⟩⟩
 have M:∀u∈css.flatten,u.oneCell'=true:=by
  intro u P;obtain⟨d,q,b5⟩:=eP.1 P;obtain⟨i,hi,rfl⟩:=dJ q;obtain⟨x,f⟩:∃x,l[i]? =some x:=⟨_,ae (by omega)⟩;exact ok.one (t i x _ f (ae hi)).1 u b5
 refine mS b0 s x K ho e0 T z k p a7 hT hz hk _ 0 [] hs N ra n c css.flatten f (by rw[a3,a1,C]) ?_ M (fun A=>by rw[e]at A;cases A) (by rw[aV];exact af (cB hn a8) (by omega)) (by omega) (cE hlt) ?_
 .intro _
  refine⟨b,off,e,fun j u hj=>?_⟩
  have b1:j<css.length*k:=by rw[<- a3];exact(TG.1 hj).1
  have v:j/k<css.length:=eb (by rw[cd];exact b1);obtain⟨x,f⟩:∃x,l[j/k]? =some x:=⟨_,ae (by omega)⟩;have X:=ae v
  have h5:=(t (j/k) x _ f X).2 (j%k) u (by
   rw[<- mC css (j/k) _ (j%k) y X (cx _ hk),cd (j/k) k,dc];exact hj)
  rw[show off+j=off+j/k*k+j%k by rw[cd (j/k) k,cN,dc]];exact h5
 .intro B w' h1 h2
  rw[aV,bD]at h1
  have a6:w'.ownsRow 0 T k B l.length css.flatten:=by
   rw[C];exact⟨h1.1,h1.2.imp id fun⟨g,cap,W,e,q1,q2⟩=>⟨g,cap,W,e,aA _,q2⟩⟩
  refine h B w' ⟨css,a1,y,a6,fun i x cs f r=>ok.kept (t i x cs f r).1 ((nW h2).mono (fun b E=>⟨Nat.lt_trans (hS b E) hlt,fun A=>?_⟩)) (fun b h=>h)⟩ h2 (fun b E=>h1.lt b E) ?_;rotate_left
  .intro b2 b6 g A F i cs hi L b3 j u P
   rw[e]at A;cases A
   have v:j<k:=by rw[<- L];exact(TG.1 P).1
   obtain⟨x,f⟩:∃x,l[i]? =some x:=⟨_,ae (by omega)⟩;have a0:css[i]? =some css[i]:=ae (by omega);have a2:css[i].length=k:=y _ (cW _);obtain⟨H,a5⟩:∃H,css[i][j]? =some H:=⟨css[i][j]'(by rw[a2];exact v),ae (by rw[a2];exact v)⟩;have b4:=(t i x _ f a0).2 j H a5;have a4:=b3 j u P
   have e4:H=u:=by rw[b4]at a4;exact aE a4
   subst e4
   obtain ⟨e5,_⟩|⟨g',cap,W,e5,_⟩:=h1.2
   .rw[e5]at F;cases F
   .subst e5
    have e6:g'=g:=by simpa[Value.ownBlock]using F
    subst e6;have r:=h1.cells (g:=g') rfl (i*k+j) H (by rw[mC css i _ j y a0 v];exact a5);rw[Addr.add_mid,aV]at r;exact r
  have e3:e0=b:=by simpa[Value.ownBlock]using A
  have:=hS b E;omega
def vt{ops k o a}{Q:Exit->Act->World->Prop}{w}(L:o.guard=none)(s x)(W:o.op=.call {callee:=.builtin .append,args:=#[s,x],argTypes:=#[68,68]}){S:Nat->Prop}{fa n c xs}(q0 q1 q2:Int){gl}(hs:a.eval s=.slice fa n c)(hown:jN S w fa n c xs)(hx:a.eval x=.slice (J gl) 1 1)(hg:w.heap[gl]? =some (.cells #[q0,q1,q2] 67 (0,0)))(hlen:n<=10000000)(hS:∀b,S b->b<w.heap.size)(h:∀A c' w',jN (fun b=>S b\/(w.heap.size<=b/\b<w'.heap.size)) w' A (n+1) c' (xs++[q0,q1,q2])->gN (fun b=>b<w.heap.size/\ ¬S b) w w'->(∀g,(Value.slice fa n c).ownBlock=some g-> ∀j,j<n*3->w'.cell? ⟨g,j,none⟩=w.cell? ⟨g,j,none⟩)->w.grownBy w' (Value.slice fa n c).ownBlock->wpList prog ops Q k (a.put o.dst (.slice A (n+1) c')) w'):
 wpList prog ops Q (o::k) a w:=by
 obtain⟨i,r,B,d,C⟩:=sd Tryz.infoFilm3;have t:=GL (cs:=[.int .i64 q0,.int .i64 q1,.int .i64 q2]) hg
 obtain⟨D,v,w',E,h2,h3,q,h5⟩:=run_append_lies (P:=prog) w 68 o.type 0 67 i _ 3 24 underlying68 r B d C rfl (by omega) _ n _ hown.1
  (J gl) 1 1 [q0,q1,q2] rfl t (by simp[Value.oneCell']) (by omega) (by unfold maxLen;omega) (by omega) (aA _) _ rfl
 have l:∀g,(Value.slice fa n c).ownBlock=some g-> ∀j,j<n*3->w'.cell? ⟨g,j,none⟩=w.cell? ⟨g,j,none⟩:=by
  intro g f j N
  obtain ⟨e,_⟩|⟨g2,cap,F,e,_,z,_,_,H,_⟩:=hown.1.2
  .rw[e]at f;cases f
  .rw[e]at f
   have R:g2=g:=by simpa[Value.ownBlock]using f
   subst R;cases e;by_cases m:n+1<=c
   .have u:=run_append_room (P:=prog) w 68 o.type 67 i underlying68 r g2 n c F z (J gl) 1 1 [q0,q1,q2] (by rw[d];rfl) t (by simp[Value.oneCell']) m (by rw[d,H];simp;omega)
    obtain rfl:=Ba (E.symm.trans u);have a1:=World.ownsRow.cellAt h2 j (by omega);have a2:=World.ownsRow.cellAt hown.1 j N;rw[a1,a2,aF (by rw[hown.1.1];exact N)]
   .obtain⟨X,a0,u,_,M⟩:=run_append_arg_grows (P:=prog) w 68 o.type 67 i _ 3 24 underlying68 r B d C rfl (by omega) (J g2) n c (xs.map (Value.int .i64)) hown.1.1 (World.ownsRow.cells hown.1 rfl)
     (J gl) 1 1 [q0,q1,q2] rfl t (by omega) (by unfold maxLen;omega) (by omega)
    obtain rfl:=Bb (E.symm.trans u);have hlt:=(hown.1.lt g2 rfl).2;exact(nW M).cell (p:=⟨g2,j,none⟩) ⟨hlt,by simp⟩
 refine eT L fun K T=>?_
 unfold Oper.wp;simp[execOp,W,resolve,invoke,builtin,hs,hx,E,Result.andThen];refine T _ _ (h (J D) v w' ⟨by rw[aT];exact h2,fun b y=>?_⟩ ?_ l h3)
 .have e:D=b:=by simpa[Value.ownBlock]using y
  subst e
  obtain q|q:=q
  .exact VR (hown.2 D q)
  .exact VS ⟨Nat.le_of_eq q.symm,h5⟩
 .exact(nW h3).mono (fun b y=>⟨y.1,fun e=>y.2 (hown.2 b e)⟩)
def wX(D:Nat->Prop)(a:Option Addr)(n c:Nat):Nat->Prop:=fun b=>D b/\(Value.slice a n c).ownBlock≠some b
structure yC (D:Nat->Prop) (w:World) (y:gR) (f v s k:iJ) (lq:List jT) (kk:Nat) (q:jT) (a:Option Addr) (n c b off:Nat):Prop where
 eq:qt lq=y.l
 rr:RR (Sh rL (Value.slice s.a s.n s.c).ownBlock) 22 D w s.a s.n s.c lq
 ap:qu lq
 at':lq[kk]? =some q
 sa:s.a=some ⟨b,off,none⟩
 row:w.rangeAt b (off+kk*22) (gX q.y.s a n c)
 db:D b
 film:jN (fun b=>(D b/\(Value.slice s.a s.n s.c).ownBlock≠some b)/\q.lo<=b/\b<q.hi) w a n c q.y.zs
 gl:q.y.s.i7.size<=9223372036854775807
 cn:n<=1000000
 fs:IRp (wX D a n c) w 2 f.a f.n f.c y.fs
 ws:IRp (wX D a n c) w 2 v.a v.n v.c y.ws
 cf:RR oB 2 (wX D a n c) w k.a k.n k.c y.cf
def mj.pick{D:Nat->Prop}{w y f v s k}(h:mj D w y f v s k){l}(u:l<s.n):∃i q a n c b off,yC D w y f v s k i l q a n c b off:=by
 obtain⟨i,lo,hi,h1,h2,h3,o,h5,p,r⟩:=h.q;obtain⟨b,off,q,cs,e,g,j,⟨a,n,c,rfl,hf,x,t⟩,z⟩:=h2.at u;have A:=o q (aL j)
 have d:∀b,D b/\(b<lo\/hi<=b)->wX D a n c b:=fun b g=>⟨g.1,fun m=>by
  have:=(hf.2 b m).2
  obtain h|h:=g.2<;>omega⟩
 exact⟨i,q,a,n,c,b,off,h1,h2,h3,j,e,z,g,hf,t,x,h5.kept (gN.refl _ _) d,p.kept (gN.refl _ _) d,r.kept ky (gN.refl _ _) d⟩
def yC.other{D:Nat->Prop}{w y f v s k j g q a n c b off}(h:yC D w y f v s k j g q a n c b off){i x w' cs}(hi:i≠g)(r:j[i]? =some x)(p:Sh rL (Value.slice s.a s.n s.c).ownBlock D w' x cs):jE (wX D a n c) w' x.y cs:=by
 obtain⟨a',n',c',e,hf,o,m⟩:=p;refine⟨a',n',c',e,hf.irp.kept (gN.refl _ _) (fun b d=>⟨d.1.1,fun l=>?_⟩),o,hf.none,m⟩;have h1:=(h.film.2 b l).2
 obtain h2|h2:=h.ap i g x q r h.at' hi
 .have:=d.2;omega
 .have:=d.2;omega
def yC.rowY{D:Nat->Prop}{w w' y f v s k g e q a n c b off}(h:yC D w y f v s k g e q a n c b off){T u}(o:Ey (Sh rL (Value.slice s.a s.n s.c).ownBlock) 22 T D w' u g):A8 jE 22 T (wX D a n c) e w' u y.l:=by
 obtain⟨css,h1,h2,h3,j⟩:=o;rw[<- h.eq];refine⟨css,by rw[mD];exact h1,h2,by rw[mD];exact h3,fun i x cs hi p m=>?_⟩;obtain⟨z,d,rfl⟩:=CW p;exact h.other hi d (j i z cs d m)
def yC.notrow{D:Nat->Prop}{w y f v s k g e q a n c b off}(h:yC D w y f v s k g e q a n c b off):wX D a n c b:=
 ⟨h.db,fun d=>(h.film.2 b d).1.2 (by rw[h.sa];rfl)⟩
def yC.still{D:Nat->Prop}{w w' y f v s k lq P q a n c b off}(h:yC D w y f v s k lq P q a n c b off)(h0:iP D w y f v s k)(e:gN (wX D a n c) w w')(S:∀g,(Value.slice a n c).ownBlock=some g-> ∀j,j<n*3->w'.cell? ⟨g,j,none⟩=w.cell? ⟨g,j,none⟩):iP D w' y f v s k:=by
 refine⟨h.fs.kept e (fun b d=>d.1),h.ws.kept e (fun b d=>d.1),?_,h.cf.kept ky e (fun b d=>d.1),h0.fn,h0.wn,h0.sn,h0.kn,h0.fc,h0.wc,h0.nm⟩;refine⟨h0.l.1,h0.l.2.1,fun T=>⟨b,off,h.sa,h.db,fun i x N=>?_⟩⟩;rw[<- h.eq]at N;obtain⟨z,r,rfl⟩:=CW N;obtain⟨b2,Q,B,a1,t⟩:=h.rr.2.2 T;rw[h.sa]at B;cases B;by_cases hi:i=P
 .subst hi
  rw[h.at']at r;cases r;have o:=h.film.irp;refine⟨gX q.y.s a n c,⟨a,n,c,rfl,⟨o.1,o.2.1,fun E=>?_⟩,?_,h.film.none,h.gl⟩,fun j u X=>(e.cell (p:=⟨b,off+i*22+j,none⟩) h.notrow).trans (h.row j u X)⟩
  .obtain ⟨m,C⟩|⟨g,cap,a0,m,_⟩:=h.film.1.2
   .cases m;omega
   .cases m
    have A:(Value.slice (J g) n c).ownBlock=some g:=rfl;refine⟨g,0,rfl,(h.film.2 g A).1.1,fun j H=>?_⟩;obtain⟨b5,o5,R,_,F⟩:=o.2.2 E;cases R;rw[aV,S g A j H];have:=F j H;rw[aV]at this;exact this
  .obtain⟨cs,⟨a',n',c',m,hf,K,a2⟩,W⟩:=t i q h.at'
   subst m;have C:some (Value.slice a' n' c')=some (Value.slice a n c):=(W 21 _ rfl).symm.trans (h.row 21 _ rfl);cases C;exact K
 .obtain⟨cs,L,M⟩:=t i z r
  refine⟨cs,iD.kept (h.other hi r L) e (fun b d=>d.1),jb M e h.notrow⟩
structure Ez (D:Nat->Prop) (w w':World):Prop where
 os:w'.os=w.os
 tape:w'.tape=w.tape
 output:w'.output=w.output
 size:w.heap.size<=w'.heap.size
 kept:gN (fun b=>b<w.heap.size/\ ¬D b) w w'
def Ez.below{D:Nat->Prop}{w w'}(h:Ez D w w'){B}(a:∀b,D b->B<=b)(d:B<=w.heap.size):Below B w w':=
 ⟨h.os,h.tape,h.output,h.size,fun b e=>h.kept b ⟨by omega,fun c=>by have:=a b c;omega⟩⟩
def MS(l x a b m d n c w)(h:RR jE 22 (fun b=>b<w.heap.size) w a m d l)(j:m<=1000000)(i:IR w w 3 b n c x.zs)(k:n<=1000000):
 Calls prog 106 #[Z a m d,Z b n c] w (fun e w'=>∃v,e=.returned (.tuple #[v,.bool (lr l x)])/\Below w w w'):=by
 have f:n=x.zs.length/3:=by rw[i.1];omega
 refine(wW l x.zs a b m d n c w h j i k).mono ?_;rintro e w' (⟨h1,rfl,g⟩|⟨l',v,h1,rfl,_,g⟩)
 .exact⟨_,by unfold lr;rw[<- f,h1],g⟩
 .exact⟨_,by unfold lr;rw[<- f,h1],g⟩
def Ks{s k}{ks:List ByteArray}{j}(h:ks[j]? =some k)(h0:rx s (ks.take j)=false):rx s (ks.take (j+1))=(s==k):=wV h h0
def MT{s k}{ks:List ByteArray}{j i}(h:ks[j]? =some k)(b:j<i)(a:(s==k)=true):rx s (ks.take i)=true:=by
 refine yI (k:=j) (x:=k) ?_ a;rw[cZ,aq b];exact h
def Kt(a b:ByteArray):(a.toList==b.toList)=(b==a):=by
 show _=(b.data==a.data)
 rw[bJ,dz,dz];exact⟨fun h=>by rw[BI h],fun h=>by rw[ByteArray.toList_eq,ByteArray.toList_eq,h]⟩
def C4(x f v s k w)(hf:RR jE 22 (fun b=>b<w.heap.size) w s.a s.n s.c x.l)(hn:s.n<=1000000)(hc:RR oB 2 (fun b=>b<w.heap.size) w k.a k.n k.c x.cf)(hk:k.n<=1000000):
 Calls prog 112 #[ry x f v s k] w (iZ w (.bool (jo x.l x.cf))):=by
 have Hf:=O hf;have Hc:=O hc;have r:=hc.1;clear hf hc;obtain⟨sa,m,T⟩:=s;obtain⟨ka,n,kc⟩:=k;simp only at*;have b4:hU (w.alloc (.cells (iw x f v ⟨sa,m,T⟩ ⟨ka,n,kc⟩).toArray 37)) w 37 x f v ⟨sa,m,T⟩ ⟨ka,n,kc⟩:=TL w _;have a9:=(TH w w).alloc (aa _) (.cells (iw x f v ⟨sa,m,T⟩ ⟨ka,n,kc⟩).toArray 37);have a6:=O b4;have a1:=O a9;clear b4 a9;unfold ry;go_enter func112,ntmps112;go_upto_region 1 with fail;refine gI (fun W=>hU W w 37 x f v ⟨sa,m,T⟩ ⟨ka,n,kc⟩/\Below w w W) ⟨a6,a1⟩ ?_;clear a6 a1;rintro w1 ⟨hg,o⟩;have hl:=hg.lt;obtain⟨_,_,_,_,_,_,_,_,P⟩:=hg.cells;have Hg:=O hg;have b7:=O o;clear hg o;go_wp2_with fail
 go_loopw [3] (fun C wr=>∃i:Nat,i<=n/\C=.int .i64 (i:Int)/\(x.cf.take i).all (lr x.l)=true/\(List.range i).all (od (x.cf.map jd.nm))=true/\Below w1 w1 wr) (fun C _=>n-(intOf C).toNat)
 case atStart=>exact⟨0,by omega,rfl,rfl,rfl,TH _ _⟩
 case round=>
  obtain⟨i,hi,rfl,ho,hd,o⟩:=hrel;have Ho:=O ho;have Hd:=O hd;have X:=O o;have q:=O (I b7 o);clear ho o hd P;obtain⟨_,_,_,_,_,_,_,_,P⟩:=(Hg.go X).cells;have hgl:w.heap.size<wr.heap.size:=ab hl X.size;have C8:=O P;by_cases b6:i<n
  .have R:=Hc.go ky q
   obtain⟨b1,off,y,cs,rfl,hlt,hy,⟨a2,n2,c2,rfl,S,c5,c0,b5⟩,L⟩:=R.at b6;have b9:=O R;clear R;have x0:=L 0 _ rfl;have x1:=L 1 _ rfl;rw[bE]at x0
   have B:(x.cf.map jd.nm)[i]? =some y.nm:=by rw[aR,hy];rfl
   have b2:od (x.cf.map jd.nm) i=(!rx y.nm ((x.cf.map jd.nm).take i)&&kI y.nm):=by unfold od;rw[B]
   have H:od (x.cf.map jd.nm) i=false->jo x.l x.cf=false:=by
    intro e;unfold jo vV;rw[aU,r,jK b6 e];simp
   have K:lr x.l y=false->jo x.l x.cf=false:=by
    intro e;unfold jo;rw[Ew hy e];rfl
   have Hz:=O (S.ir (fun _ h=>h));have a7:=O b5;have Hy:=O hy;have N:=O b2;have E:=O H;have a0:=O K;have g:=TL wr (.cells #[y.nm,Z a2 n2 c2] 75);have D:=O g;clear g L hy S B b2 H K c0 b5;go_upto_region 5 with fail;refine gI (fun W=>W.heap[wr.heap.size]? =some (.cells #[y.nm,Z a2 n2 c2] 75 (0,0))/\Below wr wr W) ⟨D,gY (TH _ _)⟩ ?_;clear D x0 x1 P;rintro w2 ⟨g,b0⟩;have c4:=TK g;have y0:=(gA g 0).trans rfl;have D:=O g;have a4:=O b0;clear g b0;cases hq:kI y.nm
   .have Q:=O hq;clear hq
    go_wp2_with((with_reducible refine(pA y.nm _ a7.out).mono ?_);rintro e w3 ⟨A,o⟩;rw[Q]at A;subst A;have M:=O o;clear o)
    go_ret;exact⟨by rw[E (by rw[N,Q];simp)];rfl,I q (I a4 M)⟩
   .have Q:=O hq;clear hq
    go_wp2_with((with_reducible refine(pA y.nm _ a7.out).mono ?_);rintro e w3 ⟨A,o⟩;rw[Q]at A;subst A;have M:=O o;clear o y0)
    go_loopw [5] (fun C wq=>∃j:Nat,j<=i/\C=.int .i64 (j:Int)/\rx y.nm ((x.cf.map jd.nm).take j)=false/\Below w2 w2 wq) (fun C _=>i-(intOf C).toNat)
    case atStart=>exact⟨0,by omega,rfl,rfl,M⟩
    case round=>
     obtain⟨j,hj,rfl,hm,F⟩:=hrel;have Hm:=O hm;have b8:=O F;have d:=O (I a4 F);have g:=(F.block _ c4).trans D;have y0:=(gA g 0).trans rfl;have y1:=(gA g 1).trans rfl;have d0:=TK g;have P:=(d.cell (p:=⟨w.heap.size,8,none⟩) hgl).trans C8;clear hm F g;by_cases c1:j<i
     .obtain⟨b3,o3,z,c9,e3,c6,S,⟨a3,n3,c3,rfl,_,_,_,_⟩,L⟩:=(b9.go ky d).at (show j<n by omega)
      cases e3;have z0:=L 0 _ rfl;rw[bE]at z0
      have B:(x.cf.map jd.nm)[j]? =some z.nm:=by rw[aR,S];rfl
      have a8:=O B;clear L S B y1;cases hq:(z.nm.toList==y.nm.toList)
      all_goals
       have Hq:=O ((Kt z.nm y.nm).symm.trans hq);go_wp2_with fail
       go_quiet (fail)
       go_wp2_with fail
      .go_roundw
       case rel=>exact⟨j+1,by omega,by go_num,(Ks a8 Hm).trans Hq,gV b8 _⟩
       case measure=>simp[intOf];omega
      .go_ret
       exact⟨by rw[E (by rw[N,MT a8 c1 Hq];rfl)];rfl,I q (gV d _)⟩
     .obtain rfl:j=i:=by omega
      have c7:=(d.cell (p:=⟨w.heap.size,7,none⟩) hgl).trans ((Hg.go X).cells).2.2.2.2.2.2.2.1;cases u:lr x.l y
      all_goals
       have t:=O u;clear u
       go_wp2_with((with_reducible refine(MS x.l y sa a2 m T n2 c2 _ ((Hf.out.go iD q.out).go iD d.out) hn (Hz.out.go d.out) c5).mono ?_);rintro e w5 ⟨v5,A,o⟩;rw[t]at A;subst A;have a5:=O o;clear o)
      .go_ret
       exact⟨by rw[a0 t];rfl,I q (I d a5)⟩
      .go_roundw
       case rel=>exact⟨j+1,by omega,by go_num,(BV Hy Ho).trans t,jl Hd (by rw[N,Hm,Q];rfl),I X (I d a5)⟩
       case measure=>simp[intOf];omega
  .obtain rfl:i=n:=by omega
   have u:jo x.l x.cf=decide ((i:Int)<=4):=by
    unfold jo vV;have h1:=Ho.out;rw[<- r,bf]at h1;rw[h1,aU,r,Hd];simp;omega
   have t:=O u;clear u;go_wp2;go_ret;exact⟨by rw[t];simp<;>rfl,q⟩
def Dl(l a n c w)(h:RR EQ 10 (fun b=>b<w.heap.size) w a n c l)(f:Ch l):
 Calls prog 74 #[Z a n c] w (iZ w (.int .i64 0)):=by
 have H:=O h;have g:=O f;clear h f;go_enter func74,ntmps74;go_wp2_with fail;refine(wm l a n c w H g).mono ?_;rintro e i ⟨rfl,d⟩;go_wp2_with fail;go_ret;exact⟨rfl,d⟩
def KO(l a)(n c k:Nat)(g w)(h:RR EQ 10 (fun b=>b<w.heap.size) w a n c l)(o:Ch l)(p:l[k]? =some g):
 Calls prog 151 #[Z a n c,g.nm] w (iZ w (.int .i64 (k:Int))):=by
 have D:n<=40:=by rw[<- h.1];exact o.len
 have C:k<n:=by rw[<- h.1];exact(TG.1 p).1
 have H:=O h;have z:=O o;have s:=O p;clear h o p;go_enter func151,ntmps151;go_wp2_with fail
 go_loopw [5] (fun r wr=>∃i:Nat,i<=k/\r=.int .i64 (i:Int)/\Below w w wr) (fun r _=>k-(intOf r).toNat)
 case atStart=>exact⟨0,by omega,rfl,TH _ _⟩
 case round=>
  obtain⟨i,hi,rfl,t⟩:=hrel;have d:=O t;clear t
  have v:i<n:=by omega
  obtain⟨b1,off,y,cs,rfl,hlt,f,⟨rfl,m⟩,q⟩:=(H.go wl d).at v;have A:=q 0 _ rfl;rw[bE]at A;by_cases u:i<k
  .have j:=z.ne k i g y s f u
   have x:(y.nm.toList==g.nm.toList)=false:=by rw[ak];exact fun e=>j e.symm
   clear j q f m;go_wp2_with fail
   go_roundw
   case rel=>exact⟨i+1,by omega,by go_num,by first|exact d|exact gV d _⟩
   case measure=>simp[intOf];omega
  .obtain rfl:i=k:=by omega
   have e:y=g:=by have:=f.symm.trans s;simpa using this
   subst e
   have B:(y.nm.toList==y.nm.toList)=true:=by simp
   clear q f m;go_wp2_with fail;go_ret;exact⟨rfl,by first|exact d|exact gV d _⟩
def ER(l a)(n c k:Nat)(g w)(h:RR EQ 10 (fun b=>b<w.heap.size) w a n c l)(o:Ch l)(p:l[k]? =some g):
 Calls prog 115 #[Z a n c,g.nm] w (iZ w (.tuple #[.int .i64 (k:Int),oZ])):=by
 have H:=O h;have j:=O o;have q:=O p;clear h o p;go_enter func115,ntmps115;go_wp2_with fail;refine(wm l a n c w H j).mono ?_;rintro e r ⟨rfl,f⟩;have d:=O f;clear f;go_wp2_with fail;refine(KO l a n c k g r (H.go wl d) j q).mono ?_;rintro e t ⟨rfl,i⟩;have m:=O (I d i);clear i
 have s:¬((k:Int) <0):=by omega
 go_wp2_with fail;go_ret2;exact⟨rfl,m⟩
def PF(w:World)(n:Nat)(P:List Int->Prop)(e:Ending)(w':World):Prop:=
 ∃v zs,e=.returned v/\w'.ownsRow w 3 1 v n (zs.map (Value.int .i64))/\P zs/\Below w w w'
def Tryz.infoInt1:(prog.info? 3).map (fun i=>(i.zero,i.size,i.bytes))=some (some (.int .i64 0),1,8):=by kernel_rfl
def Jx(n:Nat)(w)(s:n<=1000):
 Calls prog 76 #[.int .i64 (n:Int)] w (PF w n (fun zs=>zs=List.replicate n 10000000)):=by
 go_enter func76,ntmps76;go_wp2_with fail
 go_loopw [3,4] (fun v k wr=>∃i:Nat,i<=n/\k=.int .i64 (i:Int)/\wr.ownsRow w 3 1 v i ((List.replicate i (10000000:Int)).map (Value.int .i64))/\Below w w wr) (fun _ k _=>n-(intOf k).toNat)
 case atStart=>exact⟨0,by omega,rfl,World.ownsRow_nil _ _ _ _,TH _ _⟩
 case round=>
  obtain⟨i,hi,rfl,p,j⟩:=hrel;have h:=O p;have l:=O j;have o:=j.size;clear p j;by_cases r:i<n
  .go_wp2_with(refine je underlying162 Tryz.infoInt1 rfl (by omega) (by omega) rfl (.tmp 10) (.tmp 11) rfl w _ i (List.replicate i 10000000) rfl (h.alloc _) (fun _=>True) _ 1 1 [10000000] rfl (uC rfl rfl rfl) (fun e=>by cases e) (by omega) (by simp;omega) ?_;intro t u b a;have f:=O b;have d:=O a;clear b a)
   have m:=jF l h d (by omega) o;have q:=O m
   have c:List.replicate i (10000000:Int)++[10000000]=List.replicate (i+1) 10000000:=by rw[<- List.replicate_succ']
   have g:=O c;clear m c
   go_roundw
   case rel=>exact⟨i+1,by omega,by go_num,by rw[<- g];exact f,q⟩
   case measure=>simp[intOf];omega
  .obtain rfl:i=n:=by omega
   go_wp2;go_ret;exact⟨_,_,rfl,h,rfl,l⟩
def jZ{ops b e d w}{Q:Exit->Act->World->Prop}{g T x f v s k}(h:hU w g T x f v s k)(i:Region.wanted e (yielded ops d.tmps)=true)(y)(m:e.op=.load 37 y)(o:d.eval y=.pointer (J g))(l:wpList prog ops Q b (d.put e.dst (.agg #[x.nm,x.i6,x.p9,x.stop,x.prim,Z f.a f.n f.c,Z v.a v.n v.c,Z s.a s.n s.c,Z k.a k.n k.c])) w):wpList prog ops Q (e::b) d w:=
 pV i fun K j=>wp_load_mid 37 y m g 0 o (iw x f v s k) _ h.range underlying37 rfl Tryz.infoLens (j _ _ l)
def sw(x f v s k w)(W:iP (fun b=>b<w.heap.size) w x f v s k):
 Calls prog 73 #[ry x f v s k] w (iZ w (.bool (iI x))):=by
 have m:=O W;clear W;have L:hU (w.alloc (.cells (iw x f v s k).toArray 37)) w 37 x f v s k:=TL w _;have K:=(TH w w).alloc (aa _) (.cells (iw x f v s k).toArray 37);have H:=O L;have F:=O K;clear L K
 have u:∀j,j<6->jO x j=false->iI x=false:=fun j hj h=>jK hj h
 have M:jx x.i6 x.fs f.n=jO x 2:=by show _=jx x.i6 x.fs (x.fs.length/2);rw[<- qW m.fs]
 have N:kz x.prim x.ws v.n=jO x 3:=by show _=kz x.prim x.ws (x.ws.length/2);rw[<- qW m.ws]
 have t:jO x 0=true->jO x 1=true->jO x 2=true->jO x 3=true->jO x 4=true->jO x 5=true->iI x=true:=by
  intro h0 h1 h2 h3 h4 h5
  show(List.range 6).all (jO x)=true
  simp[List.range,List.range.loop,h0,h1,h2,h3,h4,h5]
 have i:=O u;have r:=O M;have A:=O N;have C:=O t;clear u M N t;unfold ry;go_enter func73,ntmps73;go_upto_region 1 with fail;refine gI (fun wx=>hU wx w 37 x f v s k/\Below w w wx) ⟨H,F⟩ ?_;clear H F;rintro X ⟨E,c⟩;have T:=E.lt;obtain⟨c0,c1,c2,_⟩:=E.cells;have C1:=O c1;have C2:=O c2;have g:=O (m.go c);have q:=O E;have o:=O c;clear E c c1 c2;have a:=TH X X;cases q0:kI x.nm<;>cases q1:bt x.i6 0 1000000000<;>cases q2:bt x.p9 1 1000000000
 all_goals
  have P:=O q0;have Q:=O q1;have R:=O q2;clear q0 q1 q2
  go_upto_region 3 with(first
   |((with_reducible refine(pA x.nm _ m.out.nm).mono ?_);rintro e w2 ⟨d,c⟩;rw[P]at d;subst d;replace a:=I a c;have c1:=(a.cell (p:=⟨w.heap.size,1,none⟩) T).trans C1;clear c)
   |((with_reducible refine(ix x.i6 0 1000000000 _).mono ?_);rintro e w3 ⟨d,c⟩;rw[Q]at d;subst d;replace a:=I a c;have c2:=(a.cell (p:=⟨w.heap.size,2,none⟩) T).trans C2;clear c)
   |((with_reducible refine(ix x.p9 1 1000000000 _).mono ?_);rintro e w4 ⟨d,c⟩;rw[R]at d;subst d;replace a:=I a c;clear c))
 iterate 4
  .go_ret
   exact⟨by rw[i 0 (by omega) P];rfl,I o a⟩
 iterate 3
  .go_ret
   exact⟨by rw[i 1 (by omega) (by show pN x.i6 x.p9=false;unfold pN;rw[Q,R];rfl)];rfl,I o a⟩
 have Hs:=O (show jO x 1=true from by show pN x.i6 x.p9=true;unfold pN;rw[Q,R];rfl);clear c0 c1 c2;cases q2:jO x 2
 .have R2:=O q2;clear q2
  go_wp2_with(first
   |(refine it (q.go a) rfl (.tmp 1) rfl rfl ?_)
   |((with_reducible refine(qX x f v s k _ ((g.out.go a).fs.ir (fun _ h=>h)) m.out.fn).mono ?_);rintro e S ⟨d,c⟩;rw[r,R2]at d;subst d;replace a:=I a c;clear c))
  go_ret;exact⟨by rw[i 2 (by omega) R2];rfl,I o a⟩
 have R2:=O q2;clear q2;cases q3:jO x 3
 .have z:=O q3;clear q3
  go_wp2_with(first
   |(refine it (q.go a) rfl (.tmp 1) rfl rfl ?_)
   |(refine jZ (q.go a) (by rfl) (.tmp 1) rfl rfl ?_)
   |((with_reducible refine(qX x f v s k _ ((g.out.go a).fs.ir (fun _ h=>h)) m.out.fn).mono ?_);rintro e S ⟨d,c⟩;rw[r,R2]at d;subst d;replace a:=I a c;clear c)
   |((with_reducible refine(vu x f v s k _ ((g.out.go a).ws.ir (fun _ h=>h)) m.out.wn).mono ?_);rintro e w6 ⟨d,c⟩;rw[A,z]at d;subst d;replace a:=I a c;clear c))
  go_ret;exact⟨by rw[i 3 (by omega) z];rfl,I o a⟩
 have z:=O q3;clear q3;cases q4:iW x.stop x.l
 .have B:=O q4;clear q4
  go_wp2_with(first
   |(refine it (q.go a) rfl (.tmp 1) rfl rfl ?_)
   |(refine jZ (q.go a) (by rfl) (.tmp 1) rfl rfl ?_)
   |((with_reducible refine(qX x f v s k _ ((g.out.go a).fs.ir (fun _ h=>h)) m.out.fn).mono ?_);rintro e S ⟨d,c⟩;rw[r,R2]at d;subst d;replace a:=I a c;clear c)
   |((with_reducible refine(vu x f v s k _ ((g.out.go a).ws.ir (fun _ h=>h)) m.out.wn).mono ?_);rintro e w6 ⟨d,c⟩;rw[A,z]at d;subst d;replace a:=I a c;clear c)
   |((with_reducible refine(uY x f v s k _ (g.out.go a).l m.out.sn).mono ?_);rintro e w7 ⟨d,c⟩;rw[B]at d;subst d;replace a:=I a c;clear c))
  go_ret;exact⟨by rw[i 4 (by omega) B];rfl,I o a⟩
 have B:=O q4;clear q4
 have y:iI x=jo x.l x.cf:=by
  cases q5:jo x.l x.cf
  .exact i 5 (by omega) q5
  .exact C P Hs R2 z B q5
 have D:=O y;clear y
 go_wp2_with(first
  |(refine it (q.go a) rfl (.tmp 1) rfl rfl ?_)
  |(refine jZ (q.go a) (by rfl) (.tmp 1) rfl rfl ?_)
  |((with_reducible refine(qX x f v s k _ ((g.out.go a).fs.ir (fun _ h=>h)) m.out.fn).mono ?_);rintro e S ⟨d,c⟩;rw[r,R2]at d;subst d;replace a:=I a c;clear c)
  |((with_reducible refine(vu x f v s k _ ((g.out.go a).ws.ir (fun _ h=>h)) m.out.wn).mono ?_);rintro e w6 ⟨d,c⟩;rw[A,z]at d;subst d;replace a:=I a c;clear c)
  |((with_reducible refine(uY x f v s k _ (g.out.go a).l m.out.sn).mono ?_);rintro e w7 ⟨d,c⟩;rw[B]at d;subst d;replace a:=I a c;clear c)
  |((with_reducible refine(C4 x f v s k _ (g.out.go a).l m.out.sn (g.out.go a).cf m.out.kn).mono ?_);rintro e w8 ⟨d,c⟩;subst d;replace a:=I a c;clear c))
 go_ret;exact⟨by rw[D];rfl,I o a⟩
def sB(x f v s k w)(m:iP (fun b=>b<w.heap.size) w x f v s k):
 Calls prog 39 #[jG x f v s k] w (iZ w (err (iI x) 120)):=by
 have o:=O m;clear m;have d:hU (w.alloc (.cells (iw x f v s k).toArray 37)) w 37 x f v s k:=TL w _;have c:=(TH w w).alloc (aa _) (.cells (iw x f v s k).toArray 37);have g:=O d;have a:=O c;clear d c;unfold jG;go_enter func39,ntmps39;go_upto_region 1 with fail;refine gI (fun n=>hU n w 37 x f v s k/\Below w w n) ⟨g,a⟩ ?_;clear g a;rintro p ⟨d,c⟩;have g:=O d;have a:=O c;clear d c;cases hv:iI x
 all_goals
  have i:=O hv;clear hv
  go_wp2_with(first
   |(refine it g rfl (.tmp 1) rfl rfl ?_)
   |((with_reducible refine(sw x f v s k _ (o.out.go a.out)).mono ?_);rintro e q ⟨l,j⟩;rw[i]at l;subst l;have h:=O j;clear j))
  go_ret;exact⟨by rw[i];rfl,I a h⟩

def Dm:List UInt8:=[77,73,82,82,79,82]
def zN(l:List gM)(i:Nat)(y:gM):Bool:=(y.s.i7.toList==Dm)||(y.s.kind==3)||(y.s.kind==4)||decide (i+1=l.length)
def ES(x f v s k)(i:Nat)(y w)(m:iP (fun b=>b<w.heap.size) w x f v s k)(E:x.l[i]? =some y):
 Calls prog 114 #[jG x f v s k,.int .i64 (i:Int)] w (iZ w (.bool (zN x.l i y))):=by
 obtain⟨sa,n,t⟩:=s
 have N:i<n:=by have:=m.l.1;simp only at this;rw[<- this];exact(TG.1 E).1
 have h:x.l.length=n:=m.l.1;have b0:n<=1000000:=m.sn;obtain⟨b1,off,z,cs,K,hlt,C,⟨a2,r,c2,rfl,hz,P,L,M⟩,Q⟩:=m.l.at N;rw[E]at C;cases C;simp only at K;subst K;have H:=O Q;have q:=O h;clear m E hz P L M Q h;have a:hU (w.alloc (.cells (iw x f v ⟨some ⟨b1,off,none⟩,n,t⟩ k).toArray 37)) w 37 x f v ⟨some ⟨b1,off,none⟩,n,t⟩ k:=TL w _;have c:=(TH w w).alloc (aa _) (.cells (iw x f v ⟨some ⟨b1,off,none⟩,n,t⟩ k).toArray 37);have g:=O a;have e:=O c;clear a c;unfold jG;go_enter func114,ntmps114;go_upto_region 1 with fail;refine gI (fun p=>hU p w 37 x f v ⟨some ⟨b1,off,none⟩,n,t⟩ k/\Below w w p) ⟨g,e⟩ ?_;clear g e;rintro j ⟨a,c⟩;obtain⟨_,_,_,_,_,_,_,D,_⟩:=a.cells;have a8:=a.lt;have h1:=Y.new j y.s a2 r c2;have d:=gY (o:=.cells (⟨y.s,a2,r,c2⟩:jt) 70) (TH j j);have B:=O (jb H (gE c) hlt);have g:=O a;have e:=O c;have F:=O h1;have u:=O d;clear a c h1 d H
 go_upto_region 2 with(first
  |(refine lw B rfl (.tmp 9) rfl rfl ?_)
  |(refine lC y.s a2 r c2 _ rfl rfl (.tmp 5) (.tmp 10) rfl rfl rfl ?_))
 refine gI (fun p=>Y p j y.s a2 r c2/\Below j j p) ⟨F,u⟩ ?_;clear F u D B;rintro w2 ⟨h1,d⟩;obtain⟨k0,k1,k2,k3,k4,k5,k6,k7,k8,k9,R,S,T,W,X,a0,a1,a3,a4,a5,a6,a7⟩:=h1.cells;obtain⟨_,_,_,_,_,_,_,D,_⟩:=(g.go d).cells;have a9:=h1.lt;have A:=O (I e d);clear h1 d g e k1 k2 k3 k4 k5 k6 k7 k8 k9 R S T X a0 a1 a3 a4 a5 a6 a7;cases q1:(y.s.i7.toList==[77,73,82,82,79,82]) <;>cases q2:(y.s.kind==3) <;>cases q3:(y.s.kind==4) <;>cases q4:((i:Int)==(n:Int)-1)
 all_goals
  go_wp2_with fail;go_ret;refine⟨?_,A⟩;have hl:=q.out;clear A k0 W D;unfold zN Dm;rw[q1,q2,q3,hl];simp at q4⊢
  try omega
def Ia(a:List jQ)(ws:List Int)(y:gM):Prop:=
 ∃(c:Nat)(g:jQ),a[c]? =some g/\g.nm=y.s.i7/\ ∀j,j<ws.length/2->g.lo<=ws.getD (j*2) 0/\ws.getD (j*2) 0<=g.hi/\g.Far (ws.getD (j*2) 0)/\ ∃A S,Sx g (ws.getD (j*2) 0) A S
def xg(zs:List Int):Prop:=∀z∈zs,10000000<=z/\z<=40000000
def Rh(w:World)(n:Nat)(e:Ending)(w':World):Prop:=
 ∃a c zs,e=.returned (.tuple #[Z a n c,oZ])/\IRp (fun b=>w.heap.size<=b/\b<w'.heap.size) w' 1 a n c zs/\(a=none->c=0)/\xg zs/\Below w w w'
def EU(n):xg (List.replicate n 10000000):=by
 intro z a;obtain⟨_,rfl⟩:=List.mem_replicate.1 a;omega
def Ib(x f v s k cl ga gn gc i y za zc zs w)(hx:iP (fun b=>b<w.heap.size) w x f v s k)(r:x.l[i]? =some y)(d6:RR EQ 10 (fun b=>b<w.heap.size) w ga gn gc cl)(d7:Ch cl)(Q:IRp (fun b=>b<w.heap.size) w 1 za v.n zc zs)(f1:za=none->zc=0)(f2:xg zs)(h0:v.n<=5)(e7:zN x.l i y=false->y.s.i7.toList.isEmpty=false->Ia cl x.ws y):
 Calls prog 77 #[jG x f v s k,Z ga gn gc,.int .i64 (i:Int),Z za v.n zc] w (Rh w v.n):=by
 obtain⟨sa,n,sc⟩:=s;obtain⟨va,m,vc⟩:=v;simp only at Q h0⊢
 have g6:i<n:=by have:=hx.l.1;simp only at this;rw[<- this];exact(TG.1 r).1
 have i2:n<=1000000:=hx.sn;have e8:x.ws.length=m*2:=hx.ws.1;obtain⟨b1,off,q,cs,e1,hlt,f0,⟨a2,n2,c2,rfl,hq,g8,g3,D⟩,hr⟩:=hx.l.at g6;rw[r]at f0;cases f0;simp only at e1;subst e1;have kg:=hr 13 _ rfl;have Hx:=O hx;have Hy:=O r;have a4:=O d6;have b6:=O d7;have Hz:=O Q;have g0:=O f1;have g1:=O f2;have f7:=O e7;have f9:=O e8;have Kg:=O kg;have h6:=O D;clear hx r d6 d7 Q f1 f2 e7 e8 hq g8 g3 D hr kg;have N:hU (w.alloc (.cells (iw x f ⟨va,m,vc⟩ ⟨some ⟨b1,off,none⟩,n,sc⟩ k).toArray 37)) w 37 x f ⟨va,m,vc⟩ ⟨some ⟨b1,off,none⟩,n,sc⟩ k:=TL w _;have W:=(TH w w).alloc (aa _) (.cells (iw x f ⟨va,m,vc⟩ ⟨some ⟨b1,off,none⟩,n,sc⟩ k).toArray 37);have R:=O N;have F:=O W;clear N W;unfold jG;go_enter func77,ntmps77;go_upto_region 1 with fail;refine gI (fun wx=>hU wx w 37 x f ⟨va,m,vc⟩ ⟨some ⟨b1,off,none⟩,n,sc⟩ k/\Below w w wx) ⟨R,F⟩ ?_;clear R F;rintro w1 ⟨N,W⟩;have h9:=N.lt;have R:=O N;have F:=O W;clear N W
 go_wp2_with(refine it R rfl (.tmp 4) rfl rfl ?_)
 refine(ES x f ⟨va,m,vc⟩ ⟨some ⟨b1,off,none⟩,n,sc⟩ k i y w1 (Hx.go F) Hy).mono ?_;rintro e C ⟨he,X⟩;cases hth:zN x.l i y
 .rw[hth]at he
  subst he;have f8:=O hth;clear hth;have D:=R.go X;obtain⟨_,_,_,_,_,_,c6,c7,_⟩:=D.cells;have i0:=D.lt;have d:=I F X;have kg:=(d.cell (p:=⟨b1,off+i*22+13,none⟩) hlt).trans Kg;have h4:b1<C.heap.size:=ab hlt d.size;have a5:=O D;have t:=O d;clear D d X;cases hem:y.s.i7.toList.isEmpty
  .obtain⟨B,g,c0,e2,a6⟩:=f7 f8 hem
   have g4:B<gn:=by rw[<- a4.1];exact(TG.1 c0).1
   have f3:gn<=40:=by rw[<- a4.1];exact b6.len
   have b5:=O c0;have c4:=O a6;have f6:=O e2;clear c0 a6 e2;go_wp2_with fail;rw[<- f6];refine(ER cl ga gn gc B g C (a4.go wl t) b6 b5).mono ?_;rintro e w3 ⟨rfl,M⟩;have d8:=a5.go M;have c9:=O d8;have a3:=O (I t M);clear d8 M c6 c7 kg a5 t;go_wp2_with fail
   go_loopw [12,13] (fun ov iv wr=>∃(j:Nat)(qs:List Int),j<=m/\iv=.int .i64 (j:Int)/\wr.ownsRow (w+1) 3 1 ov j (qs.map (Value.int .i64))/\xg qs/\hU wr w 37 x f ⟨va,m,vc⟩ ⟨some ⟨b1,off,none⟩,n,sc⟩ k/\Below w w wr) (fun _ iv _=>m-(intOf iv).toNat)
   case atStart=>exact⟨0,[],by omega,rfl,World.ownsRow_nil _ _ _ _,(fun z h=>by cases h),c9,a3⟩
   case round=>
    clear c9 a3;obtain⟨j,qs,hj,rfl,ho,e6,hg,hb⟩:=hrel;obtain⟨_,_,_,_,_,_,c6,c7,_⟩:=hg.cells;have hl:=hg.lt;have g2:=hb.size;have Ho:=O ho;have d1:=O e6;have Hg:=O hg;have Hb:=O hb;clear ho e6 hg hb;by_cases h8:j<m
    .obtain⟨g7,g5,a7,A,S,e0⟩:=c4 j (by rw[f9];omega)
     obtain⟨b3,o3,e3,c8,d5⟩:=(Hx.go Hb).ws.2.2 (by show 0<m;omega);simp only at e3;subst e3;have x0:=d5 (j*2) (by show j*2<m*2;omega);obtain⟨b4,E,q4,h7,e4,a,e5,⟨rfl,h5⟩,u⟩:=(a4.go wl Hb).at g4;rw[b5]at e5;cases e5;subst e4;have z0:=u 0 _ rfl;have z1:=u 1 _ rfl;have z2:=u 2 _ rfl;have z3:=u 3 _ rfl;have z4:=u 4 _ rfl;have z5:=u 5 _ rfl;have z6:=u 6 _ rfl;have z7:=u 7 _ rfl;have z8:=u 8 _ rfl;have z9:=u 9 _ rfl;rw[bE]at z0;generalize x.ws.getD (j*2) 0=L at*;have b7:=O e0;have c5:=O a7;clear e0 a7 u d5;have g9:=O (b6.ok g (aL b5));go_upto_region 12 with fail;refine ic 14 [13] [] [(0,true),(1,true),(2,true),(3,true),(4,true),(5,true),(6,true),(7,true),(8,true),(9,true),(10,false),(11,true),(12,true),(13,true)] (by kernel_rfl) (by kernel_rfl) ⟨by simp,by simp,fun _ h=>by cases h⟩ (fun _ _ _ _ _ h=>h) (fun _ _ o _ _ h=>by cases o<;>exact h) ?_
     iterate 10
      refine gZ (v:=?_) ?_ ?_;rotate_left
      .intro y r
       have y0:=(r.cell (p:=⟨b4,E+B*10,none⟩) a).trans z0;have y1:=(r.cell (p:=⟨b4,E+B*10+1,none⟩) a).trans z1;have y2:=(r.cell (p:=⟨b4,E+B*10+2,none⟩) a).trans z2;have y3:=(r.cell (p:=⟨b4,E+B*10+3,none⟩) a).trans z3;have y4:=(r.cell (p:=⟨b4,E+B*10+4,none⟩) a).trans z4;have y5:=(r.cell (p:=⟨b4,E+B*10+5,none⟩) a).trans z5;have y6:=(r.cell (p:=⟨b4,E+B*10+6,none⟩) a).trans z6;have y7:=(r.cell (p:=⟨b4,E+B*10+7,none⟩) a).trans z7;have y8:=(r.cell (p:=⟨b4,E+B*10+8,none⟩) a).trans z8;have y9:=(r.cell (p:=⟨b4,E+B*10+9,none⟩) a).trans z9;have i3:=(r.cell (p:=⟨w.heap.size,6,none⟩) hl).trans c6;have i4:=(r.cell (p:=⟨b3,o3+j*2,none⟩) c8).trans x0;go_simp;with_reducible rfl
      try simp only[V]
     clear x0 z0 z1 z2 z3 z4 z5 z6 z7 z8 z9;refine iK (fun xa e9 K hK=>?_);go_simp;obtain⟨T,hT⟩:=tV (((S+1)/2:Nat):Int);have c1:=HZ g L xa g9 g7 g5 c5 A S b7;rw[<- hT]at c1
     have d2:10000000<=T/\T<=40000000:=by
      have:=b7.lo;have:=b7.hi;omega
     have f4:=O d2;clear hT d2;refine c1.mono ?_;clear c1;rintro e w5 ⟨rfl,b9⟩;refine hK _ _ b9 ?_;clear hK K;(try simp only[V]);have c3:=gJ (k:=1) e9;have d3:=c3.trans (b9.mono c3.size);have b2:=O d3;clear d3 e9 c3 b9
     iterate 2
      refine gZ (v:=?_) ?_ ?_;rotate_left
      .intro y r
       skip;go_simp;with_reducible rfl
      try simp only[V]
     iterate 1
      refine iy (v:=?_) ?_ ?_;rotate_left
      .intro y
       go_simp;with_reducible rfl
      try simp only[V]
     refine jV rfl (fun w6 a0=>?_);have a1:=b2.trans (a0.mono b2.size);have d0:=O (Hg.go a1);have b0:=O (I Hb a1);have b8:=O (kD Ho a1);have h3:w.heap.size<=w6.heap.size:=af g2 a1.size;have i1:w.heap.size<w6.heap.size:=d0.lt;clear a1 a0 b2 c6 c7
     go_wp2_with(refine je underlying162 Tryz.infoInt1 rfl (by omega) (by omega) rfl (.tmp 70) (.tmp 72) rfl (w+1) _ j qs rfl (b8.alloc _) (fun _=>True) _ 1 1 [T] rfl (uC rfl rfl rfl) (fun e=>by cases e) (by omega) (by simp;omega) ?_;intro v' w4 P c;have a9:=O P;have H:=O c;clear P c)
     have e1:=(jI (base:=w.heap.size+1) b8 H (b:=w.heap.size) (by omega) (by omega)).trans d0;have e3:=jF b0 b8 H (by omega) (by omega);have E1:=O e1;have E3:=O e3;clear e1 e3
     go_roundw
     case rel=>exact⟨j+1,_,by omega,by go_num,a9,(fun z Q=>by
      obtain Q|Q:=bj.1 Q
      .exact d1 z Q
      .obtain rfl:=aK.1 Q;exact f4),E1,E3⟩
     case measure=>simp[intOf];omega
    .obtain rfl:j=m:=by omega
     obtain⟨oa,oc,e,h1,h2⟩:=lc Ho;subst e;go_wp2;go_ret2;exact⟨oa,oc,qs,rfl,h2.kept (gN.refl _ _) (fun b h=>⟨by have:=h.1;omega,h.2⟩),h1,d1,Hb⟩
  .go_wp2_with fail
   refine(Jx m C (by omega)).mono ?_;rintro e w3 ⟨ov,qs,rfl,ho,rfl,M⟩;obtain⟨oa,oc,rfl,h1,h2⟩:=lc ho;have Ho:=O h2;have a3:=O M;have Hc:=O h1;clear h1 h2 ho M;go_wp2_with fail;go_ret2;exact⟨oa,oc,_,rfl,Ho.kept (gN.refl _ _) (fun b h=>⟨by have:=h.1;have:=t.size;omega,h.2⟩),Hc,EU m,I t a3⟩
 .rw[hth]at he
  subst he;have d:=I F X;have t:=O d;clear d X
  go_wp2_with(refine je underlying162 Tryz.infoInt1 rfl (by omega) (by omega) rfl (.tmp 19) (.tmp 20) rfl C (.slice (J (C.heap.size)) 0 0) 0 [] rfl (World.ownsRow_made C #[] 0 (aa _) (by simp) rfl) (fun b=>b<C.heap.size) za m zc zs rfl (Hz.kept ((gE t).trans (gE ((TH C C).alloc (aa _) _)|>.mono (fun b h=>ab h t.size))) (fun b h=>ab h t.size)) g0 (by omega) (by simp) ?_;intro v' w6 a8 c;obtain⟨a',c',rfl,d4,hi⟩:=lc a8;have a0:Below C C w6:=((TH _ _).alloc (aa _) _).grown c (by simp) (by intro k hk;simp[Value.ownBlock]at hk;omega);clear a8 c;have Hi:=O hi;have Hc:=O d4;have b0:=O a0;clear hi d4 a0)
  have d9:IRp (fun b=>C.heap.size<=b/\b<w6.heap.size) w6 1 a' m c' zs:=by have k:=Hi.out;rw[aV]at k;exact k
  have f5:=O d9;clear d9;go_ret2;exact⟨a',c',zs,by simp,f5.kept (gN.refl _ _) (fun b h=>⟨af t.size h.1,h.2⟩),Hc,g1,I t b0⟩
def Rs(l:List gM)(w:World)(e:Ending)(w':World):Prop:=
 ∃a n c cf,e=.returned (.slice a n c)/\RR oB 2 (fun b=>w.heap.size<=b/\b<w'.heap.size) w' a n c cf/\n<=2/\jo l cf=true/\Below w w w'
def Cl:ByteArray:=⟨#[110,101,97,114]⟩
def Cm:ByteArray:=⟨#[102,97,114]⟩
def PL{S:Nat->Prop}{w T cs ys k b}(d:w.heap[b]? =some (.cells cs T (0,0)))(c:S b)(e:ys.length=1*k)(h:cs=(ys.map (Value.int .i64)).toArray):IRp S w k (J b) 1 1 ys:=by
 subst h;refine⟨e,aa _,fun _=>⟨_,0,rfl,c,fun j f=>?_⟩⟩
 have a:j<ys.length:=by omega
 rw[aV,gA d j];simp[ah,a]
def rQ{B w o}(h:B<=w.heap.size):Below B w (w.alloc o):=(TH _ _).alloc h _
def xl(l zs a b m d n c w)(h:RR jE 22 (fun b=>b<w.heap.size) w a m d l)(k:m<=1000000)(j:IR w w 3 b n c zs)(o:n<=1000000):
 Calls prog 106 #[Z a m d,Z b n c] w (fun e w'=>∃(v:Value)(r:Bool),e=.returned (.tuple #[v,r])/\(r=true->lr l ⟨ik,zs⟩=true)/\Below w w w'):=by
 have i:n=zs.length/3:=by rw[j.1];omega
 refine(wW l zs a b m d n c w h k j o).mono ?_;rintro e w' (⟨_,rfl,f⟩|⟨l',v,g,rfl,_,f⟩)
 .exact⟨_,_,rfl,(fun h=>by cases h),f⟩
 .exact⟨_,_,rfl,(fun h=>by unfold lr;simp only;rw[<- i,g];exact h),f⟩
def xm{ops c o a}{Q:Exit->Act->World->Prop}{w B e0}(i:o.guard=none)(s x)(l:o.op=.call {callee:=.builtin .append,args:=#[s,x],argTypes:=#[73,73]})(hs:a.eval s=.slice (J e0) 0 0)(he:w.heap[e0]? =some (.cells #[] 72 (0,0)))(hB:B<=e0){S:Nat->Prop}{ca cn cc zs}(hx:a.eval x=.slice ca cn cc)(hir:IRp S w 3 ca cn cc zs)(hcc:ca=none->cc=0)(hcn:cn<=4)(h:∀f w',w'.ownsRow B 72 3 f cn (zs.map (Value.int .i64))->Below B w w'->gN (fun b=>b<w.heap.size/\b≠e0) w w'->wpList prog ops Q c (a.put o.dst f) w'):wpList prog ops Q (o::c) a w:=by
 have hlt:=TK he;have d:w.ownsRow B 72 3 (.slice (J e0) 0 0) 0 (([]:List Int).map (Value.int .i64)):=⟨by simp,.inr ⟨e0,0,#[],rfl,hB,he,aa _,by unfold maxLen;omega,rfl,by simp⟩⟩;refine je underlying73 Tryz.infoChange3 rfl (by omega) (by omega) i s x l B _ 0 [] hs d S ca cn cc zs hx hir hcc (by omega) (by omega) ?_;intro f w' h1 h2;rw[aV]at h1;exact h f w' h1 ((TH B w).grown h2 (by omega) (fun k j=>by simp[Value.ownBlock]at j;omega)) ((nW h2).mono (fun b g=>⟨g.1,by simp[Value.ownBlock];exact fun e=>g.2 e.symm⟩))
def Dn{ops b o a}{Q:Exit->Act->World->Prop}{w B g}(d:o.guard=none)(s x)(i:o.op=.call {callee:=.builtin .append,args:=#[s,x],argTypes:=#[73,73]}){v cn zs}(hs:a.eval s=v)(hown:w.ownsRow B 72 3 v cn (zs.map (Value.int .i64)))(hx:a.eval x=.slice (J g) 1 1){q0 q1 q2:Int}(hg:w.heap[g]? =some (.cells #[q0,q1,q2] 72 (0,0)))(hcn:cn<=4)(hB:B<=w.heap.size)(h:∀c w',w'.ownsRow B 72 3 c (cn+1) ((zs++[q0,q1,q2]).map (Value.int .i64))->Below B w w'->wpList prog ops Q b (a.put o.dst c) w'):wpList prog ops Q (o::b) a w:=by
 refine je underlying73 Tryz.infoChange3 rfl (by omega) (by omega) d s x i B v cn zs hs hown (fun _=>True) _ 1 1 [q0,q1,q2] hx (PL hg trivial rfl rfl) (fun e=>by cases e) (by omega) hB ?_;intro c w' h1 h2;exact h c w' h1 ((TH B w).grown h2 hB (fun k f=>(hown.lt k f).1))
def KV(x s f v k l sa m sc w)(hk:RR JA 1 (fun b=>b<w.heap.size) w k.a k.n k.c x.puts)(hs:RR jE 22 (fun b=>b<w.heap.size) w sa m sc l)(hm:1<=m)(e5:m<=1000000):
 Calls prog 72 #[EW x s f v k,Z sa m sc] w (Rs l w):=by
 obtain⟨ka,n,kc⟩:=k;have Hk:=O hk;have Hs:=O hs;clear hk hs
 have j0:((m:Int)==0)=false:=by simp;omega
 have g4:=oU.new w x s f v ⟨ka,n,kc⟩;have f6:=(TH w w).alloc (aa _) (.cells (lI x s f v ⟨ka,n,kc⟩).toArray 28);have f4:=O g4;have f0:=O f6;clear g4 f6;go_enter func72,ntmps72;go_upto_region 1 with fail;refine gI (fun wx=>oU wx w x s f v ⟨ka,n,kc⟩/\Below w w wx) ⟨f4,f0⟩ ?_;clear f4 f0;rintro w1 ⟨hg,hb⟩;have hl:=hg.lt;have Hg:=O hg;have f1:=O hb;clear hg hb;go_wp2_with fail
 go_loopw [5,6] (fun ov iv wr=>∃(i:Nat)(cf:List jd),i<=2/\cf.length=i/\iv=.int .i64 (i:Int)/\jD oB 2 75 (w+1) wr ov cf/\(cf.all (lr l)=true/\cf.map jd.nm=[Cl,Cm].take i)/\oU wr w x s f v ⟨ka,n,kc⟩/\Below w w wr) (fun _ iv _=>2-(intOf iv).toNat)
 case atStart=>exact⟨0,[],by omega,rfl,rfl,jD.nil _ _ _ _ _,⟨rfl,rfl⟩,Hg,f1⟩
 case round=>
  clear Hg f1 hl;obtain⟨i,cf,hi,g0,rfl,ho,b9,hg,hb⟩:=hrel;have a4:=O b9;clear b9;obtain⟨-,-,-,-,-,-,-,-,c8⟩:=hg.cells;have hl:=hg.lt;have Ho:=O ho;have Hg:=O hg;have Hb:=O hb;have c2:=O g0;clear ho hg hb g0;by_cases d2:i<n/\i<2
  .obtain⟨d2,i7⟩:=d2
   obtain⟨D,rfl⟩:∃D:World,D=wr:=⟨_,rfl⟩;obtain⟨bk,ko,ps,j2,e1,i0,-,⟨pa,pn,pc,rfl,h0⟩,g9⟩:=(Hk.kept Id (gE Hb) (fun b h=>h)).at d2
   try simp only at e1
   subst e1;have p0:=g9 0 _ rfl;rw[bE,dn]at p0;have P0:=O p0;have h6:=O h0;have d4:bk<D.heap.size:=ab i0 Hb.size;clear p0 h0 g9;go_upto_region 5 with fail
   go_cut [7] (fun v7 wx=>v7=.pointer (J (D+1))/\ ∃nm:ByteArray,nm.size<=9223372036854775807/\[Cl,Cm][i]? =some nm/\wx.heap[D.heap.size+1]? =some (.cells #[nm,oN] 75 (0,0))/\Below D D wx)
   case first=>
    have e9:i=0\/i=1:=by omega
    obtain rfl|rfl:=e9
    .go_wp2
     go_meet;refine⟨rfl,Cl,by decide,rfl,?_,gY (gY (TH _ _))⟩;have h:=TL (D.alloc (.cells #[Cl,Cm] 9)) (.cells #[Cl,oN] 75);rw[nB]at h;exact h
    .go_wp2
     go_meet;refine⟨rfl,Cm,by decide,rfl,?_,gY (gY (TH _ _))⟩;have h:=TL (D.alloc (.cells #[Cl,Cm] 9)) (.cells #[Cm,oN] 75);rw[nB]at h;exact h
   case rest=>
    obtain⟨rfl,nm,g7,d6,h7,A⟩:=hcut;have e8:=O d6;clear d6;have e3:=TK h7;have H7:=O h7;have a6:=O A;have h4:=O g7;clear h7 A g7 c8;go_wp2_with fail
    go_loopw [8] (fun jv wr=>∃(j:Nat)(ca:Option Addr)(cn cc:Nat)(zs:List Int),j<=4/\cn<=j/\jv=.int .i64 (j:Int)/\wr.heap[D.heap.size+1]? =some (.cells #[nm,Z ca cn cc] 75 (0,0))/\IRp (fun b=>D.heap.size+1<b/\b<wr.heap.size) wr 3 ca cn cc zs/\(ca=none->cc=0)/\lr l ⟨ik,zs⟩=true/\Below D D wr) (fun jv _=>4-(intOf jv).toNat)
    case atStart=>exact⟨0,none,0,0,[],by omega,by omega,rfl,H7,IRp.nil _ _ _ _ _,fun _=>rfl,rfl,a6⟩
    case round=>
     clear H7 a6 e3;obtain⟨j,ca,cn,cc,zs,hj,i6,rfl,h7,g6,f9,g5,A⟩:=hrel;have c6:=O g5;clear g5;have e3:=TK h7;have c8:=((Hg.go A).cells).2.2.2.2.2.2.2.2;have p0:=(A.cell (p:=⟨bk,ko+i,none⟩) d4).trans P0;have i9:w.heap.size<wr.heap.size:=ab hl A.size;have i3:bk<wr.heap.size:=ab d4 A.size;have i5:=A.size;have d0:=(gA h7 0).trans rfl;have d1:=(gA h7 1).trans rfl;have H7:=O h7;have c7:=O g6;have c1:=O f9;have a6:=O A;clear h7 g6 f9 A;by_cases d3:j<pn/\j<4
     .obtain⟨d3,i8⟩:=d3
      obtain⟨bp,po,q,j3,e1,i1,-,⟨rfl,h1,e6,h2⟩,d7⟩:=(h6.kept QA ((gE a6).mono (fun b h=>ab h Hb.size)) (fun b h=>h)).at d3;subst e1;have x0:=d7 0 _ rfl;have x1:=d7 1 _ rfl;have x2:=d7 2 _ rfl;rw[bE]at x0;have i4:bp<wr.heap.size:=ab i1 (by have:=Hb.size;omega);obtain⟨X,S,T⟩:=q;unfold og at h1 e6;unfold qD at h2;simp only at x0 x1 x2 h1 e6 h2;clear d7;obtain⟨wq,rfl⟩:∃wq:World,wq=wr:=⟨_,rfl⟩;have d5:=TL wq (.cells #[.int .u8 X,.int .u8 S,.int .i16 T] 206);have f8:=(TH wq wq).alloc (aa _) (.cells #[.int .u8 X,.int .u8 S,.int .i16 T] 206);have c9:=O d5;have f3:=O f8;clear d5 f8;go_upto_region 10 with fail;refine gI (fun wx=>wx.heap[wq.heap.size]? =some (.cells #[.int .u8 X,.int .u8 S,.int .i16 T] 206 (0,0))/\Below wq wq wx) ⟨c9,f3⟩ ?_;clear c9 f3 x0 x1 x2 c8 p0 d0 d1;rintro C ⟨h9,b8⟩;have e4:=TK h9;have x0:=(gA h9 0).trans rfl;have x1:=(gA h9 1).trans rfl;have x2:=(gA h9 2).trans rfl;have h7:=(b8.block _ e3).trans H7;have d1:=(gA h7 1).trans rfl;have b4:=TK h7;have a5:=O (c7.kept ((gE b8).mono (fun b h=>h.2)) (fun b h=>(⟨h.1,ab h.2 b8.size⟩:D.heap.size+1<b/\b<C.heap.size)));have b6:=O h7;have b7:=O b8;have H:=O ((a6).trans (b8.mono a6.size));have c0:=c7;clear h9 h7 b8 H7 c7
      have j1:¬m=0:=by omega
      have u0:IntKind.i64.wrap X=X:=TM _ (by omega);have u1:IntKind.i64.wrap S=S:=TM _ (by omega);have u2:IntKind.i64.wrap (1+S.tmod 17)=1+S.tmod 17:=TM _ (by have:=sJ e6.1 17 (by omega);omega);have u3:IntKind.i64.wrap T=T:=TM _ (by omega);have u4:IntKind.i64.wrap (1000*T)=1000*T:=TM _ (by omega);refine jw (C.heap.size) [1,2,4,5,6,7,8,9,10,11,12,13,14,15,16,17,18,19] 5 (by kernel_rfl) rfl (by kernel_rfl) (by kernel_rfl) (fun _ _ o _ _ h=>by cases o<;>exact h) ?_
      iterate 18
       refine jW (v:=?_) rfl (by rfl) ?_ ?_;rotate_left
       .intro y hy
        have z0:=(hy.cell (p:=J (wq.heap.size)) e4).trans x0;have z1:=(hy.cell (p:=⟨wq.heap.size,1,none⟩) e4).trans x1;have z2:=(hy.cell (p:=⟨wq.heap.size,2,none⟩) e4).trans x2;have z3:=(hy.cell (p:=⟨D.heap.size+1,1,none⟩) b4).trans d1;go_simp;with_reducible rfl
       try simp only[V]
      refine mB ?_;clear x0 x1 x2 d1;have d9:=O c1.out;refine Fb (i:=0) (j:=20) (by kernel_rfl) rfl rfl rfl rfl (fun K r=>?_) (fun K r=>?_)
      .refine qG rfl (.slice (J (C.drew.heap.size)) 0 0) (.cells #[] 72) (by go_simp) ?_
       refine r _ _ (rQ (w:=C.drew) (aa C)) ?_;clear r K;(try simp only[V]);have he:=TL C.drew (.cells #[] 72);have a3:Below C C (C.drew.alloc (.cells #[] 72)):=gY (jA (TH _ _))
       have d8:(C.drew.alloc (.cells #[] 72)).heap.size=C.heap.size+1:=by simp
       generalize C.drew.alloc (.cells #[] 72)=wE at*;refine Fb (i:=3) (j:=20) (by kernel_rfl) rfl rfl rfl rfl (fun K r=>?_) (fun K r=>?_)
       .refine xm rfl (.tmp 51) (.tmp 53) rfl (e0:=C.heap.size) rfl he (aa _) rfl (a5.kept (gE a3|>.mono (fun b h=>h.2)) (fun b h=>h)) d9 (by omega) ?_
        intro v5 w5 Q a1 b5;refine r _ _ a1 ?_;clear r K;(try simp only[V]);have t:=a3.trans a1;refine mm (i:=20) (fun K r=>?_);refine qG rfl (.slice (J (w5.heap.size)) 1 1) (.cells #[.int .i64 (X.tmod m),.int .i64 (1+S.tmod 17),.int .i64 (1000*T)] 72) (by go_simp) ?_;refine r _ _ (rQ (w:=w5) t.size) ?_;clear r K;(try simp only[V]);have hg:=TL w5 (.cells #[.int .i64 (X.tmod m),.int .i64 (1+S.tmod 17),.int .i64 (1000*T)] 72);have W:=t.alloc t.size (.cells #[.int .i64 (X.tmod m),.int .i64 (1+S.tmod 17),.int .i64 (1000*T)] 72);refine mm (i:=21) (fun K r=>?_);refine Dn rfl (.tmp 54) (.tmp 71) rfl rfl (Q.alloc _) rfl hg (by omega) W.size ?_;intro v6 w6 z a2;refine r _ _ a2 ?_;clear r K;(try simp only[V]);have u:=O z;have E:=O (W.trans a2);clear Q a1 b5 t hg W z a2 he a3 d8;refine ia (i:=22) (fun K r=>?_);go_simp;refine r _ _ (TH _ _) ?_;clear r K;refine lH (by kernel_rfl) ?_;obtain⟨b1,b2,rfl,N,P⟩:=lc u;have a7:=O N;have L:=O P;clear N P u;have a0:=(E.block _ b4).trans b6;have a8:=TK a0;have a9:=O a0;have B:=O (H.trans (E.mono H.size));have c5:=O B.size;have F:=O b7.size;clear a0 b6 a5 H
        go_upto_if 79 with((with_reducible refine(xl l _ sa b1 m sc (cn+1) b2 _ (Hs.out.go iD (I Hb.out B.out)) e5 (L.out.ir (fun _ h=>h.2)) (by omega)).mono ?_);rintro e w7 ⟨v7,r7,rfl,b3,A⟩;have d:=O A;have c3:=O b3;clear A b3)
        have M:=(d.block _ a8).trans a9;have h3:=(gA M 1).trans rfl
        have f5:w7.frozen? ⟨D.heap.size+1,1,none⟩=false:=by rw[World.frozen?,M];rfl
        have b0:=O M;clear M a9;have R:=O (B.trans (d.mono c5));cases r7
        .go_wp2_with fail
         go_roundw
         case rel=>exact⟨j+1,ca,cn,cc,zs,by omega,by omega,by go_num,b0,c0.kept ((gE (b7.trans (E.mono F)|>.trans (d.mono (af F E.size)))).mono (fun b h=>h.2)) (fun b h=>⟨h.1,ab h.2 (af F (af E.size d.size))⟩),c1,c6,R⟩
         case measure=>simp[intOf];omega
        .go_wp2_with fail
         go_roundw
         case rel=>exact⟨j+1,b1,cn+1,b2,_,by omega,by omega,by go_num,gG b0 1 _,L.kept (((gE d).mono (fun b h=>h.2)).trans ((gK (D+1) [_] 1 w7).mono (fun b h=>by have:=F.out;have:=h.1;omega))) (fun b h=>⟨by have:=F.out;have:=h.1;omega,by(show b<((w7.setCell ⟨D.heap.size+1,1,none⟩ _).heap.size));simp;exact ab h.2 d.size⟩),a7,c3 rfl,R.setCell (p:=⟨D.heap.size+1,1,none⟩) (bY _) _⟩
         case measure=>simp[intOf];omega
       .refine qG rfl (.slice (J (wE.heap.size)) 1 1) (.cells #[.int .i64 (X.tmod m),.int .i64 (1+S.tmod 17),.int .i64 (1000*T)] 72) (by go_simp) ?_
        refine r _ _ (rQ (w:=wE) a3.size) ?_;clear r K;(try simp only[V]);have hg:=TL wE (.cells #[.int .i64 (X.tmod m),.int .i64 (1+S.tmod 17),.int .i64 (1000*T)] 72);have W:=a3.alloc a3.size (.cells #[.int .i64 (X.tmod m),.int .i64 (1+S.tmod 17),.int .i64 (1000*T)] 72);have g1:=(TJ wE (.cells #[.int .i64 (X.tmod m),.int .i64 (1+S.tmod 17),.int .i64 (1000*T)] 72) _ (TK he)).trans he
        have e7:(wE.alloc (.cells #[.int .i64 (X.tmod m),.int .i64 (1+S.tmod 17),.int .i64 (1000*T)] 72)).heap.size=wE.heap.size+1:=by simp
        generalize wE.alloc (.cells #[.int .i64 (X.tmod m),.int .i64 (1+S.tmod 17),.int .i64 (1000*T)] 72)=wG at*;refine mm (i:=3) (fun K r=>?_);refine xm rfl (.tmp 51) (.tmp 53) rfl (e0:=C.heap.size) rfl g1 (aa _) rfl (a5.kept (gE W|>.mono (fun b h=>h.2)) (fun b h=>h)) d9 (by omega) ?_;intro v5 w5 Q a1 b5;refine r _ _ a1 ?_;clear r K;(try simp only[V]);have t:=W.trans a1;have c4:=(b5 wE ⟨by omega,by omega⟩).trans hg;refine mm (i:=21) (fun K r=>?_);refine Dn rfl (.tmp 54) (.tmp 71) rfl rfl Q rfl c4 (by omega) t.size ?_;intro v6 w6 z a2;refine r _ _ a2 ?_;clear r K;(try simp only[V]);have u:=O z;have E:=O (t.trans a2);clear Q a1 b5 t hg W z a2 he a3 d8 e7 g1 c4;refine ia (i:=22) (fun K r=>?_);go_simp;refine r _ _ (TH _ _) ?_;clear r K;refine lH (by kernel_rfl) ?_;obtain⟨b1,b2,rfl,N,P⟩:=lc u;have a7:=O N;have L:=O P;clear N P u;have a0:=(E.block _ b4).trans b6;have a8:=TK a0;have a9:=O a0;have B:=O (H.trans (E.mono H.size));have c5:=O B.size;have F:=O b7.size;clear a0 b6 a5 H
        go_upto_if 79 with((with_reducible refine(xl l _ sa b1 m sc (cn+1) b2 _ (Hs.out.go iD (I Hb.out B.out)) e5 (L.out.ir (fun _ h=>h.2)) (by omega)).mono ?_);rintro e w7 ⟨v7,r7,rfl,b3,A⟩;have d:=O A;have c3:=O b3;clear A b3)
        have M:=(d.block _ a8).trans a9;have h3:=(gA M 1).trans rfl
        have f5:w7.frozen? ⟨D.heap.size+1,1,none⟩=false:=by rw[World.frozen?,M];rfl
        have b0:=O M;clear M a9;have R:=O (B.trans (d.mono c5));cases r7
        .go_wp2_with fail
         go_roundw
         case rel=>exact⟨j+1,ca,cn,cc,zs,by omega,by omega,by go_num,b0,c0.kept ((gE (b7.trans (E.mono F)|>.trans (d.mono (af F E.size)))).mono (fun b h=>h.2)) (fun b h=>⟨h.1,ab h.2 (af F (af E.size d.size))⟩),c1,c6,R⟩
         case measure=>simp[intOf];omega
        .go_wp2_with fail
         go_roundw
         case rel=>exact⟨j+1,b1,cn+1,b2,_,by omega,by omega,by go_num,gG b0 1 _,L.kept (((gE d).mono (fun b h=>h.2)).trans ((gK (D+1) [_] 1 w7).mono (fun b h=>by have:=F.out;have:=h.1;omega))) (fun b h=>⟨by have:=F.out;have:=h.1;omega,by(show b<((w7.setCell ⟨D.heap.size+1,1,none⟩ _).heap.size));simp;exact ab h.2 d.size⟩),a7,c3 rfl,R.setCell (p:=⟨D.heap.size+1,1,none⟩) (bY _) _⟩
         case measure=>simp[intOf];omega
      .refine qG rfl (.slice (J (C.drew.heap.size)) 1 1) (.cells #[.int .i64 (X.tmod m),.int .i64 (1+S.tmod 17),.int .i64 (1000*T)] 72) (by go_simp) ?_
       refine r _ _ (rQ (w:=C.drew) (aa C)) ?_;clear r K;(try simp only[V]);have hg:=TL C.drew (.cells #[.int .i64 (X.tmod m),.int .i64 (1+S.tmod 17),.int .i64 (1000*T)] 72);have W:Below C C (C.drew.alloc (.cells #[.int .i64 (X.tmod m),.int .i64 (1+S.tmod 17),.int .i64 (1000*T)] 72)):=gY (jA (TH _ _))
       have e7:(C.drew.alloc (.cells #[.int .i64 (X.tmod m),.int .i64 (1+S.tmod 17),.int .i64 (1000*T)] 72)).heap.size=C.heap.size+1:=by simp
       generalize C.drew.alloc (.cells #[.int .i64 (X.tmod m),.int .i64 (1+S.tmod 17),.int .i64 (1000*T)] 72)=wG at*;refine mm (i:=0) (fun K r=>?_);refine qG rfl (.slice (J (wG.heap.size)) 0 0) (.cells #[] 72) (by go_simp) ?_;refine r _ _ (rQ (w:=wG) W.size) ?_;clear r K;(try simp only[V]);have he:=TL wG (.cells #[] 72);have a3:=W.alloc W.size (.cells #[] 72);have g2:=(TJ wG (.cells #[] 72) _ (TK hg)).trans hg
       have d8:(wG.alloc (.cells #[] 72)).heap.size=wG.heap.size+1:=by simp
       generalize wG.alloc (.cells #[] 72)=wE at*;refine mm (i:=3) (fun K r=>?_);refine xm rfl (.tmp 51) (.tmp 53) rfl (e0:=wG.heap.size) rfl he W.size rfl (a5.kept (gE a3|>.mono (fun b h=>h.2)) (fun b h=>h)) d9 (by omega) ?_;intro v5 w5 Q a1 b5;refine r _ _ a1 ?_;clear r K;(try simp only[V]);have t:=a3.trans a1;have c4:=(b5 C.drew ⟨by(show C.heap.size<_);omega,by(show C.heap.size≠_);omega⟩).trans g2;refine mm (i:=21) (fun K r=>?_);refine Dn rfl (.tmp 54) (.tmp 71) rfl rfl Q rfl c4 (by omega) t.size ?_;intro v6 w6 z a2;refine r _ _ a2 ?_;clear r K;(try simp only[V]);have u:=O z;have E:=O (t.trans a2);clear Q a1 b5 t hg W z a2 he a3 d8 e7 g2 c4;refine ia (i:=22) (fun K r=>?_);go_simp;refine r _ _ (TH _ _) ?_;clear r K;refine lH (by kernel_rfl) ?_;obtain⟨b1,b2,rfl,N,P⟩:=lc u;have a7:=O N;have L:=O P;clear N P u;have a0:=(E.block _ b4).trans b6;have a8:=TK a0;have a9:=O a0;have B:=O (H.trans (E.mono H.size));have c5:=O B.size;have F:=O b7.size;clear a0 b6 a5 H
       go_upto_if 79 with((with_reducible refine(xl l _ sa b1 m sc (cn+1) b2 _ (Hs.out.go iD (I Hb.out B.out)) e5 (L.out.ir (fun _ h=>h.2)) (by omega)).mono ?_);rintro e w7 ⟨v7,r7,rfl,b3,A⟩;have d:=O A;have c3:=O b3;clear A b3)
       have M:=(d.block _ a8).trans a9;have h3:=(gA M 1).trans rfl
       have f5:w7.frozen? ⟨D.heap.size+1,1,none⟩=false:=by rw[World.frozen?,M];rfl
       have b0:=O M;clear M a9;have R:=O (B.trans (d.mono c5));cases r7
       .go_wp2_with fail
        go_roundw
        case rel=>exact⟨j+1,ca,cn,cc,zs,by omega,by omega,by go_num,b0,c0.kept ((gE (b7.trans (E.mono F)|>.trans (d.mono (af F E.size)))).mono (fun b h=>h.2)) (fun b h=>⟨h.1,ab h.2 (af F (af E.size d.size))⟩),c1,c6,R⟩
        case measure=>simp[intOf];omega
       .go_wp2_with fail
        go_roundw
        case rel=>exact⟨j+1,b1,cn+1,b2,_,by omega,by omega,by go_num,gG b0 1 _,L.kept (((gE d).mono (fun b h=>h.2)).trans ((gK (D+1) [_] 1 w7).mono (fun b h=>by have:=F.out;have:=h.1;omega))) (fun b h=>⟨by have:=F.out;have:=h.1;omega,by(show b<((w7.setCell ⟨D.heap.size+1,1,none⟩ _).heap.size));simp;exact ab h.2 d.size⟩),a7,c3 rfl,R.setCell (p:=⟨D.heap.size+1,1,none⟩) (bY _) _⟩
        case measure=>simp[intOf];omega
     .have hx:¬j<pn\/(j<pn/\ ¬j<4):=by omega
      clear d3
      obtain hx|⟨hx,hx4⟩:=hx
      all_goals
       go_wp2_with(refine qU ky underlying35 Tryz.infoConfig3 rfl (by omega) (by omega) rfl (.tmp 82) (.tmp 84) rfl (w+1) wr _ cf ⟨nm,zs⟩ [nm,Z ca cn cc] rfl (Ho.go ky a6) rfl rfl ⟨ca,cn,cc,rfl,c7.kept (gN.refl _ _) (fun b h=>⟨by omega,h.2,Ho.fresh (by omega)⟩),by omega,c1,h4⟩ (by rw[c2];omega) (by omega) ?_;intro g3 i2 w8 g8 f7;have h5:=O g8;have f2:=O f7;clear g8 f7)
       go_roundw
       case rel=>exact⟨i+1,cf++[⟨nm,zs⟩],by omega,by rw[al,c2];rfl,by go_num,by have q:=h5.out;exact(by simpa using q),⟨(by rw[er,a4.1];show(true&& (lr l ⟨nm,zs⟩&&true))=true;rw[show lr l ⟨nm,zs⟩=true from c6];rfl),by rw[aT,a4.2,mn e8];rfl⟩,((f2 _ _ (aa _) (a6.mono (by omega))).block _ (dk _)).trans Hg,f2 _ _ (bY _) (I Hb a6)⟩
       case measure=>simp[intOf];omega
  .have hx:¬i<n\/(i<n/\ ¬i<2):=by omega
   clear d2
   obtain⟨oa,oc,rfl⟩:∃oa oc,u5=.slice oa i oc:=by
    obtain ⟨e,e2⟩|⟨g,cap,e,-⟩:=Ho.form
    .exact⟨none,0,by rw[e];have:=c2.out;rw[e2]at this;cases this;rfl⟩
    .exact⟨_,_,by rw[e,c2]⟩
   obtain hx|⟨hx,hx4⟩:=hx
   all_goals
    go_wp2;go_ret;exact⟨oa,i,oc,cf,rfl,(Ho.rr2 ky).kept ky (gN.refl _ _) (fun b h=>⟨by omega,h.2⟩),by omega,by(unfold jo;rw[a4.1,a4.2,c2];have h8:i=0\/i=1\/i=2:=by omega);obtain rfl|rfl|rfl:=h8<;>decide+kernel,Hb⟩
def Ns{s zs n}(a:zs.length=n*3)(h:oA s zs n=true): -1000000000<=s.t8/\s.t8<=1000000000:=by
 rw[<- zq s zs n a]at h;unfold tJ nX sr jr at h;simp at h;omega
def jB(c t:Int):gW:={mR with kind:=1,curv:=c,t8:=t}
def wA{c t}(a: -1000000000<=c/\c<=1000000000)(b: -1000000000<=t/\t<=1000000000):tr ⟨jB c t,[]⟩=true:=by
 unfold tr;simp only[cI,fy];show oA (jB c t) [] 0=true
 refine zP rfl (by simp) rfl ?_ ?_
 .constructor<;>first|exact qE 0 (by omega)|(simp only[jB,mR];omega)|(simp[jB,mR];done)|(simp[jB,mR];omega)
 .simp[rM,mT,kK,jB,mR]
structure Ig (w:World) (x:rz) (s f v k:iJ) (sv:Value) (l:List gM) (wx:World):Prop where
 q:∃lq:List jT,qt lq=l/\jD rL 22 70 (w+2) wx sv lq/\qu lq/\Em wx lq
 d:oU wx w x s f v k
 z:wx.heap[w.heap.size+1]? =some (.cells #[ik,oZ,oZ,oZ,oZ,oN,oN,oN,oN] 37 (0,0))
 b:Below w w wx
 ok:∀y∈l,tr y=true
def Ig.o{w x s f v k a l b}(h:Ig w x s f v k a l b):jD jE 22 70 (w+2) b a l:=by
 obtain⟨d,rfl,c,_⟩:=h.q;exact c.qr
def Ig.go{w x s f v k e l c g}(h:Ig w x s f v k e l c)(a:Below c c g):Ig w x s f v k e l g:=
 ⟨(let⟨lq,h1,h2,h3,h4⟩:=h.q;⟨lq,h1,h2.go jX a,h3,h4.mono a.size⟩),h.d.go a,(a.block _ (TK h.z)).trans h.z,I h.b a,h.ok⟩
def Ig.more{w x s f v k C l}{y:jT}{c}(h:Ig w x s f v k C l c){e}(t:qt e=l)(o:qu e){i}(j:Em i e)(r:i<=y.lo)(p:y.lo<=y.hi)(D:y.hi<=c.heap.size)(A:tr y.y=true){m g}(u:jD rL 22 70 (w+2) g m (e++[y]))(n:∀B w0,B<=w.heap.size+2->Below B w0 c->Below B w0 g):Ig w x s f v k m (l++[y.y]) g:=by
 have E:c.heap.size<=g.heap.size:=(n _ _ (aa _) (TH (w+2) c)).size;have h2:=n _ _ (aa _) (TH (w+2) c);refine⟨⟨_,by rw[Ek,t];rfl,u,o.snoc (fun q a=>af (j q a).2 r),(j.mono (by omega)).snoc p (by omega)⟩,(h2.block _ (by omega)).trans h.d,(h2.block _ (by omega)).trans h.z,n _ _ (by omega) h.b,fun q a=>?_⟩
 obtain a|a:=bj.1 a
 .exact h.ok q a
 .obtain rfl:=aK.1 a;exact A
def Ig.size{w x s f v k b l a}(h:Ig w x s f v k b l a):w.heap.size+2<=a.heap.size:=TK h.z
def Nt{l c a}(h0:1<=l.length)(h5:l.length<=5)(d:∀y∈l,tr y=true)(e: -1000000000<=c/\c<=1000000000)(h:0<=a)(i:a<l.length)(g:kU l a≠3):iW a (l++[⟨jB c 0,[]⟩])=true:=by
 unfold iW
 have h1:uM (l++[⟨jB c 0,[]⟩])=false:=by
  unfold uM;rw[du];intro y b
  obtain b|b:=bj.1 b
  .rw[d y b];simp
  .obtain rfl:=aK.1 b
   rw[wA e (by omega)];simp
 have h2:pe (l++[⟨jB c 0,[]⟩])=true:=by
  unfold pe;rw[al,gv,cY,aY (aa _),eC];have f:=(qz ik).2 rfl
  show pM (jB c 0) _=true
  simp[pM,jB,mR,f]
 have h3:kU (l++[⟨jB c 0,[]⟩]) a=kU l a:=by
  unfold kU;rw[aF (by omega)]
 rw[h1,h2,h3];simp[bt,g];omega
def Fc:kI ⟨#[100,114,97,102,116]⟩=true:=by decide+kernel
def Nu{y}(a:kI y.nm=true)(c:0<=y.i6/\y.i6<=1000000000)(d:1<=y.p9/\y.p9<=1000000000)(hf:jx y.i6 y.fs (y.fs.length/2)=true)(hw:kz y.prim y.ws (y.ws.length/2)=true)(b:iW y.stop y.l=true)(h5:jo y.l y.cf=true):iI y=true:=by
 unfold iI
 have h1:pN y.i6 y.p9=true:=by unfold pN bt;simp;omega
 simp[bV,jO,a,h1,hf,hw,b,h5]
def JD(x:rz):List gM:=(x.surfs.take 5).map oh
def om(x:rz):List gM:=if(JD x).length=0 then[⟨jB 0 10000000,[]⟩]else JD x
def Do(l:List gM)(i:Nat):Int:=match l[i]? with
 |some y=>y.s.t8
 |none=>0
def zT(x:rz):Nat:=(x.stop% ((om x).length:Int)).toNat
def zU(x:rz):List gM:=if kU (om x) (zT x)=3 then(om x).set (zT x) ⟨jB 0 (Do (om x) (zT x)),[]⟩else om x
def Dp(x:rz):List gM:=zU x++[⟨jB (1000*x.image) 0,[]⟩]
def SD(x:rz)(w:World)(e:Ending)(w':World):Prop:=
 ∃y f v s k,e=.returned (jG y f v s k)/\mj (fun b=>w.heap.size<=b/\b<w'.heap.size) w' y f v s k/\iI y=true/\y.l=Dp x/\y.i6=uP x/\y.p9=100000*(1+x.p9)/\xV y.ws (y.ws.length/2)/\Below w w w'
def Fe{fn p tmps w g x f v s k}(h:fn.results=#[.cell p 37])(a:tmps.getD p undef=.pointer (J g))(b:hU w g 37 x f v s k):
 (results fn tmps).run prog w=.ok (jG x f v s k) w:=
 results_cell_row h tmps w g 37 _ (0,0) _ a b underlying37 rfl Tryz.infoLens
def Nv{P c}{a:Act}{y b x s f v k d}(h:oU y b x s f v k)(i:P.underlying 28=some d)(e:d.isRow=true)(hi:(P.info? 28).map (·.size)=some 9)(z)(g:c.op=.load 28 z)(j:a.eval z=.pointer (J b)):(execOp a.eval c).run P y=.ok (.value (EW x s f v k)) y:=by
 unfold execOp;simp only[g,j,Instr.loadAt,Instr.sureAddr,bR,cT,bU,run_loadVar_mid y b 0 28 (lI x s f v k) d h.range i e hi];rfl
def rB{ops}{Q:Exit->Act->World->Prop}{B i m c e a d w}(hi:ops.toList[i]? =some e)(hw:Region.wanted e (yielded ops d.tmps)=true){b x s f v k}(h:∀y,Below B w y->oU y b x s f v k)(z)(j:e.op=.load 28 z)(l:d.eval z=.pointer (J b))(g:Ec B prog ops Q c m (a.setIfInBounds i true) (d.put e.dst (EW x s f v k)) w):Ec B prog ops Q (i::c) m a d w:=
 jW hi hw (fun y n=>Nv (h y n) underlying28 rfl Tryz.infoDrL z j l) g
