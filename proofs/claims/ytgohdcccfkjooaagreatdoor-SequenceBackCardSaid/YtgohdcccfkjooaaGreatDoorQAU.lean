import Derived.Test.YtgohdcccfkjooaaGreatDoorQAT
namespace Go.Proofs.YtgohdcccfkjooaaGreatDoor
set_option linter.all false
set_option maxRecDepth 100000
set_option maxHeartbeats 3200000
open Go.Proofs.Tryz Go.RowKit
def GI(x f v s k g p T w)(a:hU w g T x f v s k)(d:x.nm.size<=9223372036854775807)(h:w.cell? (J p)=some (.pointer (J g))):
 Calls prog 119 #[U p] w (iZ w (.bool (kI x.nm))):=by
 obtain⟨c0,_⟩:=a.cells;clear a
 go_enter func119,ntmps119
 go_wp2_with((with_reducible refine(ze x.nm _ d).mono ?_);rintro e i ⟨c,b⟩;subst c)
 go_ret;exact⟨rfl,b⟩
def pN(dist pupil:Int):Bool:=bt dist 0 1000000000&&bt pupil 1 1000000000
def GJ(x f v s k g p T w)(c:hU w g T x f v s k)(o:w.cell? (J p)=some (.pointer (J g)))(l:p<w.heap.size):
 Calls prog 121 #[U p] w (iZ w (.bool (pN x.dist x.pupil))):=by
 obtain⟨_,c1,c2,_⟩:=c.cells;have n:=c.lt;have m:=O c2;have P:=O o;clear c c2;cases h1:bt x.dist 0 1000000000<;>cases h2:bt x.pupil 1 1000000000
 all_goals
  have d:=O h1;have h:=O h2;clear h1 h2
  go_enter func121,ntmps121
  go_wp2_with(first
   |((with_reducible refine(jc x.dist _ _ _).mono ?_);rintro e r ⟨b,a⟩;rw[d]at b;subst b;have c2:=(a.cell (p:=⟨g,2,none⟩) n).trans m;have q:=(a.cell (p:=J p) l).trans P;have i:=O a;clear a)
   |((with_reducible refine(jc x.pupil _ _ _).mono ?_);rintro e t ⟨b,a⟩;rw[h]at b;subst b;have j:=O a;clear a))
  go_ret;unfold pN;rw[d,h]
  first
   |exact⟨rfl,I i j⟩
   |exact⟨rfl,i⟩
def jO(x:gR):Nat->Bool
 |0=>kI x.nm
 |1=>pN x.dist x.pupil
 |2=>jx x.dist x.fs (x.fs.length/2)
 |3=>kz x.prim x.ws (x.ws.length/2)
 |4=>iW x.stop x.l
 |_=>jo x.l x.cf
def iI(x:gR):Bool:=(List.range 6).all (jO x)
def S5(g p:Nat):List Value:=[.func (.func 119) #[] #[U p],.func (.func 121) #[] #[U p],.func (.func 123) #[U g] #[],.func (.func 124) #[U g] #[],.func (.func 125) #[U g] #[],.func (.func 126) #[U g] #[]]
def qW{S:Nat->Prop}{w a n c zs}(h:IRp S w 2 a n c zs):n=zs.length/2:=by rw[h.1];omega
def Po(x f v s k g p q c T T2 w)(X:hU w g T x f v s k)(hx:iP (fun b=>b<w.heap.size) w x f v s k)(hp:w.cell? (J p)=some (.pointer (J g)))(M:p<w.heap.size)(W:jY w w)(N:w.heap[q]? =some (.cells (S5 g p).toArray T2 (0,0)))(hc:6<=c):
 Calls prog 118 #[Z (J q) 6 c] w (iZ w (.bool (iI x))):=by
 have Hg:=O X;have z:=O hx;have Hp:=O hp;have HP:=O W;have Hq:=O N;have a1:=TK N;clear X hx hp W N
 go_enter func118,ntmps118
 go_wp2_with fail
 go_step3
 go_wp2_with fail
 go_step3
 go_wp2_with fail
 go_loopw [3,8] (fun ov P wr=>∃i:Nat,i<=6/\P=.int .i64 (i:Int)/\ov=.bool true/\(List.range i).all (jO x)=true/\Below w w wr) (fun _ P _=>6-(intOf P).toNat)
 case atStart=>exact⟨0,by omega,rfl,rfl,rfl,TH _ _⟩
 case round=>
  obtain⟨i,hi,rfl,rfl,ho,m⟩:=hrel;have A:=O ho;have t:=O m;clear ho m;have C:=O (Hg.go t);have D:=O (z.go t);have P2:=O ((t.cell (p:=J p) M).trans Hp);have S:=O (HP.go t);have H:p<wr.heap.size:=ab M t.size;have y:=(t.block _ a1).trans Hq
  have B:∀j,j<6->jO x j=false->iI x=false:=fun j hj h=>jK hj h
  have r:=O B;clear B
  have K:jx x.dist x.fs f.n=jO x 2:=by show _=jx x.dist x.fs (x.fs.length/2);rw[<- qW z.fs]
  have L:kz x.prim x.ws v.n=jO x 3:=by show _=kz x.prim x.ws (x.ws.length/2);rw[<- qW z.ws]
  have Q:=O K;have R:=O L;clear K L
  have a0:i=0\/i=1\/i=2\/i=3\/i=4\/i=5\/i=6:=by omega
  obtain rfl|rfl|rfl|rfl|rfl|rfl|rfl:=a0
  .have F:wr.cell? (J q)=some (.func (.func 119) #[] #[U p]):=(gA y 0).trans rfl
   cases hv:jO x 0
   all_goals
    have u:Hid (kI x.nm=_):=O (hv);have d:=O hv;clear hv
    go_wp2_with((with_reducible refine(GI x f v s k g p T _ C.out z.out.nm P2.out).mono ?_);rintro e E ⟨o,m⟩;rw[u]at o;subst o;have a:=O (I t m);clear m)
   .go_ret
    exact⟨by rw[r 0 (by omega) d];rfl,a⟩
   .go_roundw
    case rel=>exact⟨1,by omega,rfl,rfl,jl A d,a⟩
    case measure=>simp[intOf]
  .have F:wr.cell? ⟨q,1,none⟩=some (.func (.func 121) #[] #[U p]):=(gA y 1).trans rfl
   cases hv:jO x 1
   all_goals
    have u:Hid (pN x.dist x.pupil=_):=O (hv);have d:=O hv;clear hv
    go_wp2_with((with_reducible refine(GJ x f v s k g p T _ C.out P2.out H).mono ?_);rintro e E ⟨o,m⟩;rw[u]at o;subst o;have a:=O (I t m);clear m)
   .go_ret
    exact⟨by rw[r 1 (by omega) d];rfl,a⟩
   .go_roundw
    case rel=>exact⟨2,by omega,rfl,rfl,jl A d,a⟩
    case measure=>simp[intOf]
  .have F:wr.cell? ⟨q,2,none⟩=some (.func (.func 123) #[U g] #[]):=(gA y 2).trans rfl
   cases hv:jO x 2
   all_goals
    have u:Hid (jx x.dist x.fs f.n=_):=O (Q.trans hv);have d:=O hv;clear hv
    go_wp2_with((with_reducible refine(Et x f v s k g T _ C.out (D.out.fs.ir (fun _ h=>h)) z.out.fn).mono ?_);rintro e E ⟨o,m⟩;rw[u]at o;subst o;have a:=O (I t m);clear m)
   .go_ret
    exact⟨by rw[r 2 (by omega) d];rfl,a⟩
   .go_roundw
    case rel=>exact⟨3,by omega,rfl,rfl,jl A d,a⟩
    case measure=>simp[intOf]
  .have F:wr.cell? ⟨q,3,none⟩=some (.func (.func 124) #[U g] #[]):=(gA y 3).trans rfl
   cases hv:jO x 3
   all_goals
    have u:Hid (kz x.prim x.ws v.n=_):=O (R.trans hv);have d:=O hv;clear hv
    go_wp2_with((with_reducible refine(GH x f v s k g T _ C.out (D.out.ws.ir (fun _ h=>h)) z.out.wn).mono ?_);rintro e E ⟨o,m⟩;rw[u]at o;subst o;have a:=O (I t m);clear m)
   .go_ret
    exact⟨by rw[r 3 (by omega) d];rfl,a⟩
   .go_roundw
    case rel=>exact⟨4,by omega,rfl,rfl,jl A d,a⟩
    case measure=>simp[intOf]
  .have F:wr.cell? ⟨q,4,none⟩=some (.func (.func 125) #[U g] #[]):=(gA y 4).trans rfl
   cases hv:jO x 4
   all_goals
    have u:Hid (iW x.stop x.l=_):=O (hv);have d:=O hv;clear hv
    go_wp2_with((with_reducible refine(A4 x f v s k g T _ C.out D.out.l z.out.sn).mono ?_);rintro e E ⟨o,m⟩;rw[u]at o;subst o;have a:=O (I t m);clear m)
   .go_ret
    exact⟨by rw[r 4 (by omega) d];rfl,a⟩
   .go_roundw
    case rel=>exact⟨5,by omega,rfl,rfl,jl A d,a⟩
    case measure=>simp[intOf]
  .have F:wr.cell? ⟨q,5,none⟩=some (.func (.func 126) #[U g] #[]):=(gA y 5).trans rfl
   cases hv:jO x 5
   all_goals
    have u:Hid (jo x.l x.cf=_):=O (hv);have d:=O hv;clear hv
    go_wp2_with((with_reducible refine(C3 x f v s k g T _ C.out D.out.l z.out.sn D.out.cf z.out.kn S.out).mono ?_);rintro e E ⟨o,m⟩;rw[u]at o;subst o;have a:=O (I t m);clear m)
   .go_ret
    exact⟨by rw[r 5 (by omega) d];rfl,a⟩
   .go_roundw
    case rel=>exact⟨6,by omega,rfl,rfl,jl A d,a⟩
    case measure=>simp[intOf]
  .go_wp2
   go_ret;exact⟨by unfold iI;rw[A];rfl,t⟩
def Km(x f v s k g T w)(l:hU w g T x f v s k)(m:iP (fun b=>b<w.heap.size) w x f v s k)(h:jY w w):
 Calls prog 79 #[U g] w (iZ w (.bool (iI x))):=by
 have q:=O l;have r:=O m;have p:=O h;clear l m h;obtain⟨c,d⟩:=iN w (.cells #[U g] 215) (.cells (S5 g w).toArray 47);have i:=iH (w:=w) (.cells #[U g] 215) (.cells (S5 g w).toArray 47);have n:=O c;have o:=O d;have a:=O i;clear c d i
 go_enter func79,ntmps79
 go_wp2_with fail
 refine(Po x f v s k g w (w+1) 6 T 47 _ (q.go a) (r.go a) ((gA n 0).trans rfl) (by simp<;>omega) (p.go a) o (by omega)).mono ?_;rintro e u ⟨t,j⟩;subst t;go_wp2;go_ret;exact⟨rfl,I a j⟩
def jG(x:gR)(f v s k:iJ):Value:=.agg #[x.nm,x.dist,x.pupil,x.stop,x.prim,Z f.a f.n f.c,Z v.a v.n v.c,Z s.a s.n s.c,Z k.a k.n k.c]
def zw(x f v s k w)(j:iP (fun b=>b<w.heap.size) w x f v s k)(d:jY w w):
 Calls prog 40 #[jG x f v s k] w (iZ w (err (iI x) 120)):=by
 have o:=O j;have m:=O d;clear j d;obtain⟨p,c⟩:=iN w (.cells (iw x f v s k).toArray 37) (.cells (iw x f v s k).toArray 171);have g:=iH (w:=w) (.cells (iw x f v s k).toArray 37) (.cells (iw x f v s k).toArray 171);have l:=O c;have a:=O g;clear p c g;unfold jG
 go_enter func40,ntmps40
 cases hv:iI x
 all_goals
  have n:=O hv;clear hv
  go_wp2_with fail
  refine(Km x f v s k (w+1) 171 _ l (o.go a) (m.go a)).mono ?_;rintro e q ⟨i,h⟩;rw[n]at i;subst i;go_wp2;go_ret;exact⟨rfl,I a h⟩
def jD.rr2{α R k}(ok:kR k R){T base w}{a:Option Addr}{n c:Nat}{l:List α}(h:jD R k T base w (.slice a n c) l):RR R k (fun b=>base<=b/\b<w.heap.size) w a n c l:=by
 have o:=h.rr ok;refine⟨o.1,o.2.1,fun u=>?_⟩;obtain⟨b,off,e,s,m⟩:=o.2.2 u;obtain⟨css,h1,h2,h3,r⟩:=id h
 obtain ⟨f,h0⟩|⟨g,cap,z,f,y,A,B,C,D,E⟩:=h3.2
 .cases f;cases e
 .cases f;cases e
  refine⟨_,0,rfl,⟨y,s⟩,fun i x q=>?_⟩;have hi:i<l.length:=(TG.1 q).1;have d:css[i]? =some css[i]:=ae (by omega);refine⟨css[i],ok.kept (r i x _ q d) (gN.refl _ _) (fun b h=>⟨h.1,h.2.1⟩),fun j v p=>?_⟩
  have t:j<k:=by
   have:=(TG.1 p).1;rw[h2 css[i] (cW _)]at this;exact this
  have m:=h3.cells rfl (i*k+j) v (by rw[mC css i _ j h2 d t];exact p);rw[Addr.add_mid,<- cN]at m;exact m
def MR{l i p}(h:qx l i p=true):∃(k:Nat)(y:gM),i=(k:Int)/\k<l.length/\l[k]? =some y/\tr y=true/\tt y.s p=true:=by
 unfold qx at h;simp only[am]at h;obtain⟨⟨h1,h2⟩,_⟩:=h
 have h1:0<=i/\i<=(l.length:Int)-1:=by simpa[bt]using h1
 obtain⟨k,rfl⟩:∃k:Nat,i=(k:Int):=⟨i.toNat,by omega⟩
 have a:k<l.length:=by omega
 unfold Eq at h2;rw[aI,ae a]at h2;simp only[vl,am]at h2;exact⟨k,l[k],rfl,a,ae a,h2.1,h2.2⟩
end Go.Proofs.YtgohdcccfkjooaaGreatDoor
