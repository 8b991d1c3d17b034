import Derived.Test.YtlnbjinneegciabGreatDoorTAJ
namespace Go.Proofs.YtlnbjinneegciabGreatDoor
set_option linter.all false
set_option maxRecDepth 100000
set_option maxHeartbeats 6400000
open Go.Proofs.Tryz Go.RowKit
def Kl{s:gW}{zs:List Int}{n:Nat}(b:zs.length=n*3)(h:oA s zs n=true)(a:s.kind≠1):s.order=0:=by
 have h1:uX s zs n=true:=by unfold oA at h;simp only[am]at h;exact h.1
 have h2:rK s zs=true:=by rw[Eu]at h1;simp only[am]at h1;exact h1.1
 rw[<- Jo s zs n b]at h2;unfold rM qw at h2;rw[aj a]at h2
 repeat' split at h2
 all_goals simp at h2
 all_goals omega
def vp(s:gW)(zs:List Int)(p:Int)(a:Option Addr)(n c:Nat)(w:World)(y:IR w w 3 a n c zs)(v:n<=1000000)(u:s.gA.size<=9223372036854775807):
 Calls prog 178 #[.agg (⟨s,a,n,c⟩:jt),p] w (iZ w (.bool (vl s zs n p))):=by
 have l:=O (Y.new w s a n c);have j:=(TH w w).alloc (ag _) (.cells (⟨s,a,n,c⟩:jt) 58);have m:=O (y.go j);have i:=O j;clear y j;go_enter func178,ntmps178
 cases ho:oA s zs n with
 |false=>
  have h:=O ho;clear ho
  go_wp2_with(first
   |(refine gO l rfl (.tmp 2) rfl rfl ?_)
   |((with_reducible refine(lN s zs a n c _ m.out v u).mono ?_);rintro e A ⟨k,hb⟩;rw[h]at k;subst k))
  go_ret;exact⟨by unfold vl;rw[h];rfl,I i hb⟩
 |true=>
  obtain⟨C,D⟩:=vT ho;have g:=O (Kl m.1 ho);have h:=O ho;clear ho
  go_upto_region 3 with(first
   |(refine gO l rfl (.tmp 2) rfl rfl ?_)
   |((with_reducible refine(lN s zs a n c _ m.out v u).mono ?_);rintro e A ⟨k,hb⟩;rw[h]at k;subst k))
  refine gI (fun B=>Y B w s a n c/\Below w w B) ⟨Y.go l hb (by simp),I i hb⟩ ?_;clear hb l m i A;rintro E ⟨h1,q:HQ _⟩;obtain⟨k0,_,_,_,_,_,_,_,_,_,_,z,_⟩:=h1.cells;clear h1
  have x:vl s zs n p=tt s p:=by unfold vl;rw[h];rfl
  have t:=O x;clear x
  have d:s.kind=1\/s.kind=2\/s.kind=3\/s.kind=4:=by omega
  clear C D
  obtain d|d|d|d:=d
  all_goals
   have f:=g.out;rw[d]at f;have o:=O f;have r:=O d;clear f;rw[d]at k0;clear d;go_wp2
   all_goals
    go_ret;refine⟨ai (fun b=>Ending.returned (Value.bool b)) ?_,q⟩;rw[t];unfold tt nZ;rw[r];have f:=o.out;clear t r q h k0 z g o;go_light;simp at f;rw[bJ]
    (try simp)
    (try(split<;>(try simp_all)))
    all_goals(try omega)

def Ex(l:List gM)(a:Option Addr)(n c:Nat)(i p:Int)(w:World)(h:RR jE 22 (fun b=>b<w.heap.size) w a n c l)(R:n<=1000000):
 Calls prog 127 #[Z a n c,i,p] w (iZ w (.bool (qx l i p))):=by
 have g:=h.1;have H:=O h;clear h
 have z:qx l i p=(bt i 0 ((n:Int)-1)&&Eq l i.toNat p&& ((p !=9)||decide (i<(n:Int)-1))):=by unfold qx;rw[g]
 have r:=O z;clear z;go_enter func127,ntmps127
 cases hb0:bt i 0 ((n:Int)-1)with
 |false=>
  have d:=O hb0;clear hb0
  go_wp2_with((with_reducible refine(ix _ _ _ _).mono ?_);rintro e Q ⟨f,hb⟩;rw[d]at f;subst f)
  go_ret;exact⟨by rw[r,d];rfl,hb⟩
 |true=>
  have hi:0<=i/\i<=(n:Int)-1:=by simpa[bt]using hb0
  obtain⟨k,rfl⟩:∃k:Nat,i=(k:Int):=⟨i.toNat,by omega⟩
  have D:k<n:=by omega
  have d:=O hb0;clear hb0 hi;obtain⟨b,off,x,cs,rfl,hlt,K,⟨a2,q,c2,rfl,o,E,C,m⟩,F⟩:=H.at D
  have A:Eq l (k:Int).toNat p=vl x.s x.zs q p:=by unfold Eq;rw[aI,K];simp only;rw[<- mU o]
  have M:=O A;have P:=O (o.ir (fun _ h=>h));have N:=O F;have u:=O m;clear A K o C F m;cases hv:vl x.s x.zs q p<;>cases h9:(p !=9) <;>cases hlast:decide ((k:Int) <(n:Int)-1)
  all_goals
   have y:=O hv;have L:=O h9;have v:=O hlast;clear hv;simp only[aD,dQ]at hlast
   go_wp2_with(first
    |(refine pW (jb N (gE B) hlt) (by rfl) (.tmp 15) rfl rfl ?_)
    |((with_reducible refine(ix _ _ _ _).mono ?_);rintro e Q ⟨f,hb⟩;rw[d]at f;subst f;have B:=hb;have j:=O hb)
    |((with_reducible refine(vp x.s x.zs p _ q c2 _ (P.out.go j.out) E u.out).mono ?_);rintro e S ⟨f,t:HQ _⟩;rw[y]at f;subst f))
   go_ret;exact⟨by rw[r,d,M,y,L,v];rfl,I j t⟩
def Pn(w:World)(s:gW)(zs:List Int)(n:Nat)(p v:Int)(e:Ending)(w':World):Prop:=
 (mw s zs n p v≠0/\e=.returned (.tuple #[.agg zS,.int .i64 (mw s zs n p v)])/\Below w w w')\/
 (mw s zs n p v=0/\ ∃a c,e=.returned (.tuple #[.agg #[.int .i64 (s.put p v).kind,.int .i64 (s.put p v).r9,.int .i64 (s.put p v).i4,.int .i64 (s.put p v).i5,.int .i64 (s.put p v).cm,.int .i64 (s.put p v).a0,.int .i64 (s.put p v).a1,.int .i64 (s.put p v).a2,.int .i64 (s.put p v).a3,.int .i64 (s.put p v).p0,.int .i64 (s.put p v).p1,.int .i64 (s.put p v).order,.int .i64 (s.put p v).tg,.string (s.put p v).gA,.int .i64 (s.put p v).i6,.int .i64 (s.put p v).i7,.int .i64 (s.put p v).dx,.int .i64 (s.put p v).dy,.int .i64 (s.put p v).ax,.int .i64 (s.put p v).ay,.int .i64 (s.put p v).az,Z a n c],oZ])/\jN (fun b=>w.heap.size<=b/\b<w'.heap.size) w' a n c zs/\(a=none->c=0)/\Below w w w')
def zr(s:gW)(zs:List Int)(p v:Int)(a:Option Addr)(n c:Nat)(w:World)(hz:IR w w 3 a n c zs)(H:n<=1000000)(hc:a=none->c=0)(P:s.gA.size<=9223372036854775807):
 Calls prog 128 #[.agg (⟨s,a,n,c⟩:jt),p,v] w (Pn w s zs n p v):=by
 have d:=O (Y.new w s a n c);have h2:=TL (w.alloc (.cells (⟨s,a,n,c⟩:jt) 58)) (.cells zS 58);have l:=O (gY (o:=.cells zS 58) (gY (o:=.cells (⟨s,a,n,c⟩:jt) 58) (TH w w)));rw[Wf]at h2;have q:=O h2;have C:=O hz;have Hc:=O hc;clear h2 hz hc;go_enter func128,ntmps128;go_upto_region 1 with fail;refine gI (fun u=>Y u w s a n c/\u.heap[w.heap.size+1]? =some (.cells zS 58 (0,0))/\Below w w u) ⟨Y.go (B:=w.heap.size+1) d ((TH _ _).alloc (by simp) _) (by omega),q,l⟩ ?_;clear d q l;rintro w1 ⟨h1,h2,hb⟩;have t:=h1.lt;have m:=TK h2;have d:=O h1;have q:=O h2;have l:=O hb;clear h1 h2 hb
 cases ho:oA s zs n with
 |false=>
  have E:nj s zs n p=110:=by unfold nj;rw[aj (by rw[ho];simp)]
  have i:mw s zs n p v=110:=by unfold mw;rw[E];rfl
  have N:=O ho;have j:=O i;clear ho E i
  go_wp2_with(first
   |(refine gO d rfl (.tmp 3) rfl rfl ?_)
   |((with_reducible refine(lN s zs a n c _ (C.out.go l.out) H P).mono ?_);rintro e T ⟨r,hb⟩;rw[N]at r;subst r;have f:=O hb;clear hb)
   |(refine hE ⟨0,0,0,0,0,0,0,0,0,0,0,0,0,ik,0,0,0,0,0,0,0⟩ none 0 0 ((f.block _ m).trans q) rfl rfl (.tmp 6) (.tmp 11) rfl rfl rfl ?_))
  refine ar (lY (s:=⟨0,0,0,0,0,0,0,0,0,0,0,0,0,ik,0,0,0,0,0,0,0⟩) (a:=none) (n:=0) (c:=0) rfl rfl rfl (Y.stored ((f.block _ m).trans q) rfl _ _ _ _)) rfl ?_;exact VR ⟨by rw[j];decide,by rw[j];rfl,Below.put22 (I l f) (by omega) _ _ _ _⟩
 |true=>
  have x:vl s zs n p=tt s p:=by unfold vl;rw[ho];rfl
  cases hh:tt s p with
  |false=>
   have E:nj s zs n p=2:=by unfold nj;rw[aq ho,hh];rfl
   have i:mw s zs n p v=2:=by unfold mw;rw[E];rfl
   rw[hh]at x;have N:=O ho;have j:=O i;have L:=O x;clear ho E i x hh
   go_wp2_with(first
    |(refine gO d rfl (.tmp 3) rfl rfl ?_)
    |(refine gO (Y.go d f t) rfl (.tmp 3) rfl rfl ?_)
    |((with_reducible refine(lN s zs a n c _ (C.out.go l.out) H P).mono ?_);rintro e T ⟨r,hb⟩;rw[N]at r;subst r;have f:=O hb;clear hb)
    |((with_reducible refine(vp s zs p a n c _ (C.out.go (I l.out f.out)) H P).mono ?_);rintro e w3 ⟨r,hb⟩;rw[L]at r;subst r;have y:=O (I f hb);clear hb)
    |(refine hE ⟨0,0,0,0,0,0,0,0,0,0,0,0,0,ik,0,0,0,0,0,0,0⟩ none 0 0 ((y.block _ m).trans q) rfl rfl (.tmp 6) (.tmp 16) rfl rfl rfl ?_))
   refine ar (lY (s:=⟨0,0,0,0,0,0,0,0,0,0,0,0,0,ik,0,0,0,0,0,0,0⟩) (a:=none) (n:=0) (c:=0) rfl rfl rfl (Y.stored ((y.block _ m).trans q) rfl _ _ _ _)) rfl ?_;exact VR ⟨by rw[j];decide,by rw[j];rfl,Below.put22 (I l y) (by omega) _ _ _ _⟩
  |true=>
   have E:nj s zs n p=0:=by unfold nj;rw[aq ho,hh];rfl
   obtain⟨r1,r2⟩:=oM hh;rw[hh]at x;have N:=O ho;have Hm:=O E;have L:=O x;clear ho E x hh
   go_upto_block 0 with(first
    |(refine gO d rfl (.tmp 3) rfl rfl ?_)
    |(refine gO (Y.go d f t) rfl (.tmp 3) rfl rfl ?_)
    |((with_reducible refine(lN s zs a n c _ (C.out.go l.out) H P).mono ?_);rintro e T ⟨r,hb⟩;rw[N]at r;subst r;have f:=O hb;clear hb)
    |((with_reducible refine(vp s zs p a n c _ (C.out.go (I l.out f.out)) H P).mono ?_);rintro e w3 ⟨r,hb⟩;rw[L]at r;subst r;have y:=O (I f hb);clear hb))
   refine gI (fun u=>Y u w s a n c/\u.heap[w.heap.size+1]? =some (.cells zS 58 (0,0))/\Below w w u) ⟨d.go y t,(y.block _ m).trans q,I l y⟩ ?_;clear d q l f y t m;rintro w4 ⟨h1,h2,hb⟩;have t:=h1.lt;have m:=TK h2;have d:=O h1;have q:=O h2;have l:=O hb;clear h1 h2 hb
   go_cut [7]from 18 to 74 (fun v7 u=>v7=.int .i64 0/\Y u w (s.put p v) a n c/\u.heap[w.heap.size+1]? =some (.cells zS 58 (0,0))/\Below w w u)
   case first=>
    have hq:=fun h1 h2=>d.put (p:=p) h1 h2 v
    obtain⟨k0,k1,k2,k3,k4,k5,k6,k7,k8,k9,X,a0,a1,a2,a3,a4,a5,a6,a7,a8,a9,Q⟩:=d.cells;have f1:=d.free 1;have f2:=d.free 2;have f3:=d.free 3;have f4:=d.free 4;have f5:=d.free 5;have f6:=d.free 6;have f7:=d.free 7;have f8:=d.free 8;have b4:=d.free 12;have b5:=d.free 14;have b6:=d.free 16;have b7:=d.free 17;have b8:=d.free 18;have b9:=d.free 19;have c0:=d.free 20;have f9:=d.free 9;have b3:=d.free 10;have R:=O (show Y (w4.setCell ⟨w.heap.size,mi p,none⟩ (.int .i64 v)) w (s.put p v) a n c/\(w4.setCell ⟨w.heap.size,mi p,none⟩ (.int .i64 v)).heap[w.heap.size+1]? =some (.cells zS 58 (0,0))/\Below w w (w4.setCell ⟨w.heap.size,mi p,none⟩ (.int .i64 v))from⟨hq r1 r2,gF q _ (by simp) _,l.setCell (p:=⟨w.heap.size,mi p,none⟩) (ag _) _⟩);clear hq L Hm N d q l
    obtain rfl|rfl|rfl|rfl|rfl|rfl|rfl|rfl|rfl|rfl|rfl|rfl|rfl|rfl|rfl|rfl|rfl:=oL r1 r2
    all_goals
     go_wp2;go_meet;exact⟨rfl,R⟩
   case rest=>
    obtain⟨rfl,h1,h2,hb⟩:=hcut;have t:=h1.lt;have m:=TK h2;have d:=O h1;have q:=O h2;have l:=O hb;clear h1 h2 hb
    have W:(s.put p v).gA.size<=9223372036854775807:=by
     obtain rfl|rfl|rfl|rfl|rfl|rfl|rfl|rfl|rfl|rfl|rfl|rfl|rfl|rfl|rfl|rfl|rfl:=oL r1 r2<;>exact P
    cases D:oA (s.put p v) zs n with
    |false=>
     have i:mw s zs n p v=2:=by unfold mw;rw[aq Hm.out,D];rfl
     have Hk:=O D;have j:=O i;clear D i
     go_wp2_with(first
      |(refine gO d rfl (.tmp 3) rfl rfl ?_)
      |((with_reducible refine(lN (s.put p v) zs a n c _ (C.out.go l.out) H W).mono ?_);rintro e T ⟨r,hb⟩;rw[Hk]at r;subst r;have f:=O hb;clear hb)
      |(refine hE ⟨0,0,0,0,0,0,0,0,0,0,0,0,0,ik,0,0,0,0,0,0,0⟩ none 0 0 ((f.block _ m).trans q) rfl rfl (.tmp 6) (.tmp 78) rfl rfl rfl ?_))
     refine ar (lY (s:=⟨0,0,0,0,0,0,0,0,0,0,0,0,0,ik,0,0,0,0,0,0,0⟩) (a:=none) (n:=0) (c:=0) rfl rfl rfl (Y.stored ((f.block _ m).trans q) rfl _ _ _ _)) rfl ?_;exact VR ⟨by rw[j];decide,by rw[j];rfl,Below.put22 (I l f) (by omega) _ _ _ _⟩
    |true=>
     have i:mw s zs n p v=0:=by unfold mw;rw[aq Hm.out,D];rfl
     have Hk:=O D;have j:=O i;clear D i
     go_upto_region 34 with(first
      |(refine gO d rfl (.tmp 3) rfl rfl ?_)
      |((with_reducible refine(lN (s.put p v) zs a n c _ (C.out.go l.out) H W).mono ?_);rintro e T ⟨r,hb⟩;rw[Hk]at r;subst r;have f:=O hb;clear hb))
     refine gI (fun u=>Y u w (s.put p v) a n c/\u.heap[w.heap.size+1]? =some (.cells zS 58 (0,0))/\Below w w u) ⟨d.go f t,(f.block _ m).trans q,I l f⟩ ?_;clear f d q l t m;rintro F ⟨h1,h2,hb⟩;have t:=h1.lt;have m:=TK h2;obtain⟨k0,k1,k2,k3,k4,k5,k6,k7,k8,k9,X,a0,a1,a2,a3,a4,a5,a6,a7,a8,a9,Q⟩:=h1.cells;have d:=O h1;have q:=O h2;have l:=O hb;clear h1 h2 hb k0 k1 k2 k3 k4 k5 k6 k7 k8 k9 X a0 a1 a2 a3 a4 a5 a6 a7 a8 a9
     go_wp2_with(first
      |(refine je underlying56 Tryz.infoFilm3 rfl (by omega) (by omega) rfl (.tmp 79) (.tmp 81) rfl F (.slice (J (F.heap.size)) 0 0) 0 [] rfl (World.ownsRow_made F #[] 0 (ag _) (by simp) rfl) (fun b=>b<F.heap.size) a n c zs rfl (IR.irp ((C.go l).below ((TH _ _).alloc (ag _) _) (ag _)) (fun _ h=>h)) Hc (by omega) (by simp) ?_;intro v' K A z;obtain⟨a',c',rfl,x,hi⟩:=lc A;have hi:=jN.own (S:=fun b=>F.heap.size<=b/\b<K.heap.size) A (fun g h1 h2=>⟨h1,h2⟩);have M:Below F F K:=((TH _ _).alloc (ag _) _).grown z (by simp) (by intro k D;simp[Value.ownBlock]at D;omega);clear A z Q;have fz:=Y.free (Y.go d M t) 21;have Q:=(Y.cells (Y.go d M t)).2.2.2.2.2.2.2.2.2.2.2.2.2.2.2.2.2.2.2.2.2;have Hi:=O hi;have b0:=O x;have f:=O M;clear hi x M)
      |(refine gO (Y.p8 (Y.go d f t) a' n c') rfl (.tmp 3) rfl rfl ?_)
      |(refine hE (s.put p v) a' n c' (gF ((f.block _ m).trans q) ⟨w.heap.size,21,none⟩ (by simp) _) rfl rfl (.tmp 6) (.tmp 84) rfl rfl rfl ?_))
     have b2:jN (fun b=>F.heap.size<=b/\b<K.heap.size) K a' n c' zs:=by have k:=Hi.out;rw[aV]at k;exact k
     have b1:=O b2;refine ar (lY (s:=s.put p v) (a:=a') (n:=n) (c:=c') rfl rfl rfl (Y.stored (gF ((f.block _ m).trans q) ⟨w.heap.size,21,none⟩ (by simp) _) rfl (s.put p v) a' n c')) rfl ?_;refine VS ⟨j,a',c',rfl,b1.kept ((gK w [_] 21 K).mono ?_|>.trans ((gK (w+1) (gX (s.put p v) a' n c') 0 _).mono ?_)) ?_,b0,?_⟩
     .intro b hb;have:=hb.1;omega
     .intro b hb;have:=hb.1;omega
     .intro b hb
      refine⟨by have:=hb.1;have:=l.size;omega,?_⟩;have:=im (w+1) (gX (s.put p v) a' n c') 0 (K.setCell ⟨w.heap.size,21,none⟩ (.slice a' n c'))
      show b<((K.setCell ⟨w.heap.size,21,none⟩ (.slice a' n c')).setCells (w+1) 0 (gX (s.put p v) a' n c')).heap.size
      rw[this];simpa using hb.2
     .exact Below.put22 ((I l f).setCell (p:=⟨w.heap.size,21,none⟩) (ag _) _) (by omega) _ _ _ _
