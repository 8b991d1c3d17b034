import Derived.Test.YtlnbjinneegciaaGreatDoorOAI
namespace Go.Proofs.YtlnbjinneegciaaGreatDoor
set_option linter.all false
set_option maxRecDepth 100000
set_option maxHeartbeats 6400000
open Go.Proofs.Tryz Go.RowKit
def Kl{s:gW}{zs:List Int}{n:Nat}(b:zs.length=n*3)(h:oA s zs n=true)(a:s.kind≠1):s.order=0:=by
 have h1:uX s zs n=true:=by unfold oA at h;simp only[am]at h;exact h.1
 have h2:rK s zs=true:=by rw[Eu]at h1;simp only[am]at h1;exact h1.1
 rw[<- Jo s zs n b]at h2;unfold rM qw at h2;rw[aj a]at h2
 repeat' split at h2
 all_goals simp at h2
 all_goals omega
def vp(s:gW)(zs:List Int)(p:Int)(a:Option Addr)(n c:Nat)(w:World)(z:IR w w 3 a n c zs)(x:n<=1000000)(v:s.e9.size<=9223372036854775807):
 Calls prog 184 #[.agg (⟨s,a,n,c⟩:jt),p] w (iZ w (.bool (vl s zs n p))):=by
 have m:=O (Y.new w s a n c);have k:=(TH w w).alloc (aa _) (.cells (⟨s,a,n,c⟩:jt) 64);have o:=O (z.go k);have i:=O k;clear z k;go_enter func184,ntmps184
 cases ho:oA s zs n with
 |false=>
  have h:=O ho;clear ho
  go_wp2_with(first
   |(refine gO m rfl (.tmp 2) rfl rfl ?_)
   |((with_reducible refine(lN s zs a n c _ o.out x v).mono ?_);rintro e B ⟨l,j⟩;rw[h]at l;subst l))
  go_ret;exact⟨by unfold vl;rw[h];rfl,I i j⟩
 |true=>
  obtain⟨D,E⟩:=vT ho;have g:=O (Kl o.1 ho);have h:=O ho;clear ho
  go_upto_region 3 with(first
   |(refine gO m rfl (.tmp 2) rfl rfl ?_)
   |((with_reducible refine(lN s zs a n c _ o.out x v).mono ?_);rintro e B ⟨l,j⟩;rw[h]at l;subst l))
  refine gI (fun C=>Y C w s a n c/\Below w w C) ⟨Y.go m j (by simp),I i j⟩ ?_;clear j m o i B;rintro F ⟨h1,r:HQ _⟩;obtain⟨k0,_,_,_,_,_,_,_,_,_,_,A,_⟩:=h1.cells;clear h1
  have y:vl s zs n p=tt s p:=by unfold vl;rw[h];rfl
  have u:=O y;clear y
  have d:s.kind=1\/s.kind=2\/s.kind=3\/s.kind=4:=by omega
  clear D E
  obtain d|d|d|d:=d
  all_goals
   have f:=g.out;rw[d]at f;have q:=O f;have t:=O d;clear f;rw[d]at k0;clear d;go_wp2
   all_goals
    go_ret;refine⟨ai (fun b=>Ending.returned (Value.bool b)) ?_,r⟩;rw[u];unfold tt nZ;rw[t];have f:=q.out;clear u t r h k0 A g q;go_light;simp at f;rw[bJ]
    (try simp)
    (try(split<;>(try simp_all)))
    all_goals(try omega)

def Ex(l:List gM)(a:Option Addr)(n c:Nat)(i p:Int)(w:World)(h:RR jE 22 (fun b=>b<w.heap.size) w a n c l)(S:n<=1000000):
 Calls prog 140 #[Z a n c,i,p] w (iZ w (.bool (qx l i p))):=by
 have j:=h.1;have H:=O h;clear h
 have A:qx l i p=(bt i 0 ((n:Int)-1)&&Eq l i.toNat p&& ((p !=9)||decide (i<(n:Int)-1))):=by unfold qx;rw[j]
 have t:=O A;clear A;go_enter func140,ntmps140
 cases hb0:bt i 0 ((n:Int)-1)with
 |false=>
  have d:=O hb0;clear hb0
  go_wp2_with((with_reducible refine(ix _ _ _ _).mono ?_);rintro e R ⟨f,g⟩;rw[d]at f;subst f)
  go_ret;exact⟨by rw[t,d];rfl,g⟩
 |true=>
  have hi:0<=i/\i<=(n:Int)-1:=by simpa[bt]using hb0
  obtain⟨k,rfl⟩:∃k:Nat,i=(k:Int):=⟨i.toNat,by omega⟩
  have E:k<n:=by omega
  have d:=O hb0;clear hb0 hi;obtain⟨b,off,x,cs,rfl,hlt,L,⟨a2,r,c2,rfl,q,F,D,o⟩,K⟩:=H.at E
  have B:Eq l (k:Int).toNat p=vl x.s x.zs r p:=by unfold Eq;rw[aI,L];simp only;rw[<- mU q]
  have N:=O B;have Q:=O (q.ir (fun _ h=>h));have P:=O K;have v:=O o;clear B L q D K o;cases hv:vl x.s x.zs r p<;>cases h9:(p !=9) <;>cases hlast:decide ((k:Int) <(n:Int)-1)
  all_goals
   have z:=O hv;have M:=O h9;have y:=O hlast;clear hv;simp only[aD,dQ]at hlast
   go_wp2_with(first
    |(refine pW (jb P (gE C) hlt) (by rfl) (.tmp 15) rfl rfl ?_)
    |((with_reducible refine(ix _ _ _ _).mono ?_);rintro e R ⟨f,g⟩;rw[d]at f;subst f;have C:=g;have m:=O g)
    |((with_reducible refine(vp x.s x.zs p _ r c2 _ (Q.out.go m.out) F v.out).mono ?_);rintro e T ⟨f,u:HQ _⟩;rw[z]at f;subst f))
   go_ret;exact⟨by rw[t,d,N,z,M,y];rfl,I m u⟩
def Pn(w:World)(s:gW)(zs:List Int)(n:Nat)(p v:Int)(e:Ending)(w':World):Prop:=
 (mw s zs n p v≠0/\e=.returned (.tuple #[.agg zS,.int .i64 (mw s zs n p v)])/\Below w w w')\/
 (mw s zs n p v=0/\ ∃a c,e=.returned (.tuple #[.agg #[.int .i64 (s.put p v).kind,.int .i64 (s.put p v).t8,.int .i64 (s.put p v).r9,.int .i64 (s.put p v).i5,.int .i64 (s.put p v).cm,.int .i64 (s.put p v).a0,.int .i64 (s.put p v).a1,.int .i64 (s.put p v).a2,.int .i64 (s.put p v).a3,.int .i64 (s.put p v).p0,.int .i64 (s.put p v).p1,.int .i64 (s.put p v).order,.int .i64 (s.put p v).tx,.string (s.put p v).e9,.int .i64 (s.put p v).i6,.int .i64 (s.put p v).i7,.int .i64 (s.put p v).dx,.int .i64 (s.put p v).dy,.int .i64 (s.put p v).ax,.int .i64 (s.put p v).ay,.int .i64 (s.put p v).az,Z a n c],oZ])/\jN (fun b=>w.heap.size<=b/\b<w'.heap.size) w' a n c zs/\(a=none->c=0)/\Below w w w')
def zr(s:gW)(zs:List Int)(p v:Int)(a:Option Addr)(n c:Nat)(w:World)(hz:IR w w 3 a n c zs)(K:n<=1000000)(hc:a=none->c=0)(Q:s.e9.size<=9223372036854775807):
 Calls prog 141 #[.agg (⟨s,a,n,c⟩:jt),p,v] w (Pn w s zs n p v):=by
 have d:=O (Y.new w s a n c);have h2:=TL (w.alloc (.cells (⟨s,a,n,c⟩:jt) 64)) (.cells zS 64);have m:=O (gY (o:=.cells zS 64) (gY (o:=.cells (⟨s,a,n,c⟩:jt) 64) (TH w w)));rw[Wf]at h2;have r:=O h2;have D:=O hz;have Hc:=O hc;clear h2 hz hc;go_enter func141,ntmps141;go_upto_region 1 with fail;refine gI (fun x=>Y x w s a n c/\x.heap[w.heap.size+1]? =some (.cells zS 64 (0,0))/\Below w w x) ⟨Y.go (B:=w.heap.size+1) d ((TH _ _).alloc (by simp) _) (by omega),r,m⟩ ?_;clear d r m;rintro w1 ⟨h1,h2,i⟩;have u:=h1.lt;have q:=TK h2;have d:=O h1;have r:=O h2;have m:=O i;clear h1 h2 i
 cases ho:oA s zs n with
 |false=>
  have F:nj s zs n p=110:=by unfold nj;rw[aj (by rw[ho];simp)]
  have j:mw s zs n p v=110:=by unfold mw;rw[F];rfl
  have P:=O ho;have l:=O j;clear ho F j
  go_wp2_with(first
   |(refine gO d rfl (.tmp 3) rfl rfl ?_)
   |((with_reducible refine(lN s zs a n c _ (D.out.go m.out) K Q).mono ?_);rintro e W ⟨t,i⟩;rw[P]at t;subst t;have f:=O i;clear i)
   |(refine hE ⟨0,0,0,0,0,0,0,0,0,0,0,0,0,ik,0,0,0,0,0,0,0⟩ none 0 0 ((f.block _ q).trans r) rfl rfl (.tmp 6) (.tmp 11) rfl rfl rfl ?_))
  refine ar (lY (s:=⟨0,0,0,0,0,0,0,0,0,0,0,0,0,ik,0,0,0,0,0,0,0⟩) (a:=none) (n:=0) (c:=0) rfl rfl rfl (Y.stored ((f.block _ q).trans r) rfl _ _ _ _)) rfl ?_;exact VR ⟨by rw[l];decide,by rw[l];rfl,Below.put22 (I m f) (by omega) _ _ _ _⟩
 |true=>
  have y:vl s zs n p=tt s p:=by unfold vl;rw[ho];rfl
  cases hh:tt s p with
  |false=>
   have F:nj s zs n p=2:=by unfold nj;rw[aq ho,hh];rfl
   have j:mw s zs n p v=2:=by unfold mw;rw[F];rfl
   rw[hh]at y;have P:=O ho;have l:=O j;have M:=O y;clear ho F j y hh
   go_wp2_with(first
    |(refine gO d rfl (.tmp 3) rfl rfl ?_)
    |(refine gO (Y.go d f u) rfl (.tmp 3) rfl rfl ?_)
    |((with_reducible refine(lN s zs a n c _ (D.out.go m.out) K Q).mono ?_);rintro e W ⟨t,i⟩;rw[P]at t;subst t;have f:=O i;clear i)
    |((with_reducible refine(vp s zs p a n c _ (D.out.go (I m.out f.out)) K Q).mono ?_);rintro e w3 ⟨t,i⟩;rw[M]at t;subst t;have z:=O (I f i);clear i)
    |(refine hE ⟨0,0,0,0,0,0,0,0,0,0,0,0,0,ik,0,0,0,0,0,0,0⟩ none 0 0 ((z.block _ q).trans r) rfl rfl (.tmp 6) (.tmp 16) rfl rfl rfl ?_))
   refine ar (lY (s:=⟨0,0,0,0,0,0,0,0,0,0,0,0,0,ik,0,0,0,0,0,0,0⟩) (a:=none) (n:=0) (c:=0) rfl rfl rfl (Y.stored ((z.block _ q).trans r) rfl _ _ _ _)) rfl ?_;exact VR ⟨by rw[l];decide,by rw[l];rfl,Below.put22 (I m z) (by omega) _ _ _ _⟩
  |true=>
   have F:nj s zs n p=0:=by unfold nj;rw[aq ho,hh];rfl
   obtain⟨r1,r2⟩:=oM hh;rw[hh]at y;have P:=O ho;have Hm:=O F;have M:=O y;clear ho F y hh
   go_upto_block 0 with(first
    |(refine gO d rfl (.tmp 3) rfl rfl ?_)
    |(refine gO (Y.go d f u) rfl (.tmp 3) rfl rfl ?_)
    |((with_reducible refine(lN s zs a n c _ (D.out.go m.out) K Q).mono ?_);rintro e W ⟨t,i⟩;rw[P]at t;subst t;have f:=O i;clear i)
    |((with_reducible refine(vp s zs p a n c _ (D.out.go (I m.out f.out)) K Q).mono ?_);rintro e w3 ⟨t,i⟩;rw[M]at t;subst t;have z:=O (I f i);clear i))
   refine gI (fun x=>Y x w s a n c/\x.heap[w.heap.size+1]? =some (.cells zS 64 (0,0))/\Below w w x) ⟨d.go z u,(z.block _ q).trans r,I m z⟩ ?_;clear d r m f z u q;rintro w4 ⟨h1,h2,i⟩;have u:=h1.lt;have q:=TK h2;have d:=O h1;have r:=O h2;have m:=O i;clear h1 h2 i
   go_cut [7]from 18 to 74 (fun v7 x=>v7=.int .i64 0/\Y x w (s.put p v) a n c/\x.heap[w.heap.size+1]? =some (.cells zS 64 (0,0))/\Below w w x)
   case first=>
    have hq:=fun h1 h2=>d.put (p:=p) h1 h2 v
    obtain⟨k0,k1,k2,k3,k4,k5,k6,k7,k8,k9,a0,a1,a2,a3,a4,a5,a6,a7,a8,a9,b0,R⟩:=d.cells;have f1:=d.free 1;have f2:=d.free 2;have f3:=d.free 3;have f4:=d.free 4;have f5:=d.free 5;have f6:=d.free 6;have f7:=d.free 7;have f8:=d.free 8;have b5:=d.free 12;have b6:=d.free 14;have b7:=d.free 16;have b8:=d.free 17;have b9:=d.free 18;have c0:=d.free 19;have c1:=d.free 20;have f9:=d.free 9;have b4:=d.free 10;have T:=O (show Y (w4.setCell ⟨w.heap.size,mi p,none⟩ (.int .i64 v)) w (s.put p v) a n c/\(w4.setCell ⟨w.heap.size,mi p,none⟩ (.int .i64 v)).heap[w.heap.size+1]? =some (.cells zS 64 (0,0))/\Below w w (w4.setCell ⟨w.heap.size,mi p,none⟩ (.int .i64 v))from⟨hq r1 r2,gF r _ (by simp) _,m.setCell (p:=⟨w.heap.size,mi p,none⟩) (aa _) _⟩);clear hq M Hm P d r m
    obtain rfl|rfl|rfl|rfl|rfl|rfl|rfl|rfl|rfl|rfl|rfl|rfl|rfl|rfl|rfl|rfl|rfl:=oL r1 r2
    all_goals
     go_wp2;go_meet;exact⟨rfl,T⟩
   case rest=>
    obtain⟨rfl,h1,h2,i⟩:=hcut;have u:=h1.lt;have q:=TK h2;have d:=O h1;have r:=O h2;have m:=O i;clear h1 h2 i
    have X:(s.put p v).e9.size<=9223372036854775807:=by
     obtain rfl|rfl|rfl|rfl|rfl|rfl|rfl|rfl|rfl|rfl|rfl|rfl|rfl|rfl|rfl|rfl|rfl:=oL r1 r2<;>exact Q
    cases E:oA (s.put p v) zs n with
    |false=>
     have j:mw s zs n p v=2:=by unfold mw;rw[aq Hm.out,E];rfl
     have Hk:=O E;have l:=O j;clear E j
     go_wp2_with(first
      |(refine gO d rfl (.tmp 3) rfl rfl ?_)
      |((with_reducible refine(lN (s.put p v) zs a n c _ (D.out.go m.out) K X).mono ?_);rintro e W ⟨t,i⟩;rw[Hk]at t;subst t;have f:=O i;clear i)
      |(refine hE ⟨0,0,0,0,0,0,0,0,0,0,0,0,0,ik,0,0,0,0,0,0,0⟩ none 0 0 ((f.block _ q).trans r) rfl rfl (.tmp 6) (.tmp 78) rfl rfl rfl ?_))
     refine ar (lY (s:=⟨0,0,0,0,0,0,0,0,0,0,0,0,0,ik,0,0,0,0,0,0,0⟩) (a:=none) (n:=0) (c:=0) rfl rfl rfl (Y.stored ((f.block _ q).trans r) rfl _ _ _ _)) rfl ?_;exact VR ⟨by rw[l];decide,by rw[l];rfl,Below.put22 (I m f) (by omega) _ _ _ _⟩
    |true=>
     have j:mw s zs n p v=0:=by unfold mw;rw[aq Hm.out,E];rfl
     have Hk:=O E;have l:=O j;clear E j
     go_upto_region 34 with(first
      |(refine gO d rfl (.tmp 3) rfl rfl ?_)
      |((with_reducible refine(lN (s.put p v) zs a n c _ (D.out.go m.out) K X).mono ?_);rintro e W ⟨t,i⟩;rw[Hk]at t;subst t;have f:=O i;clear i))
     refine gI (fun x=>Y x w (s.put p v) a n c/\x.heap[w.heap.size+1]? =some (.cells zS 64 (0,0))/\Below w w x) ⟨d.go f u,(f.block _ q).trans r,I m f⟩ ?_;clear f d r m u q;rintro H ⟨h1,h2,i⟩;have u:=h1.lt;have q:=TK h2;obtain⟨k0,k1,k2,k3,k4,k5,k6,k7,k8,k9,a0,a1,a2,a3,a4,a5,a6,a7,a8,a9,b0,R⟩:=h1.cells;have d:=O h1;have r:=O h2;have m:=O i;clear h1 h2 i k0 k1 k2 k3 k4 k5 k6 k7 k8 k9 a0 a1 a2 a3 a4 a5 a6 a7 a8 a9 b0
     go_wp2_with(first
      |(refine je underlying62 Tryz.infoFilm3 rfl (by omega) (by omega) rfl (.tmp 79) (.tmp 81) rfl H (.slice (J (H.heap.size)) 0 0) 0 [] rfl (World.ownsRow_made H #[] 0 (aa _) (by simp) rfl) (fun b=>b<H.heap.size) a n c zs rfl (IR.irp ((D.go m).below ((TH _ _).alloc (aa _) _) (aa _)) (fun _ h=>h)) Hc (by omega) (by simp) ?_;intro v' L C A;obtain⟨a',c',rfl,y,hi⟩:=lc C;have hi:=jN.own (S:=fun b=>H.heap.size<=b/\b<L.heap.size) C (fun g h1 h2=>⟨h1,h2⟩);have N:Below H H L:=((TH _ _).alloc (aa _) _).grown A (by simp) (by intro k E;simp[Value.ownBlock]at E;omega);clear C A R;have fz:=Y.free (Y.go d N u) 21;have R:=(Y.cells (Y.go d N u)).2.2.2.2.2.2.2.2.2.2.2.2.2.2.2.2.2.2.2.2.2;have Hi:=O hi;have b1:=O y;have f:=O N;clear hi y N)
      |(refine gO (Y.t9 (Y.go d f u) a' n c') rfl (.tmp 3) rfl rfl ?_)
      |(refine hE (s.put p v) a' n c' (gF ((f.block _ q).trans r) ⟨w.heap.size,21,none⟩ (by simp) _) rfl rfl (.tmp 6) (.tmp 84) rfl rfl rfl ?_))
     have b3:jN (fun b=>H.heap.size<=b/\b<L.heap.size) L a' n c' zs:=by have k:=Hi.out;rw[aV]at k;exact k
     have b2:=O b3;refine ar (lY (s:=s.put p v) (a:=a') (n:=n) (c:=c') rfl rfl rfl (Y.stored (gF ((f.block _ q).trans r) ⟨w.heap.size,21,none⟩ (by simp) _) rfl (s.put p v) a' n c')) rfl ?_;refine VS ⟨l,a',c',rfl,b2.kept ((gK w [_] 21 L).mono ?_|>.trans ((gK (w+1) (gX (s.put p v) a' n c') 0 _).mono ?_)) ?_,b1,?_⟩
     .intro b i;have:=i.1;omega
     .intro b i;have:=i.1;omega
     .intro b i
      refine⟨by have:=i.1;have:=m.size;omega,?_⟩;have:=im (w+1) (gX (s.put p v) a' n c') 0 (L.setCell ⟨w.heap.size,21,none⟩ (.slice a' n c'))
      show b<((L.setCell ⟨w.heap.size,21,none⟩ (.slice a' n c')).setCells (w+1) 0 (gX (s.put p v) a' n c')).heap.size
      rw[this];simpa using i.2
     .exact Below.put22 ((I m f).setCell (p:=⟨w.heap.size,21,none⟩) (aa _) _) (by omega) _ _ _ _
