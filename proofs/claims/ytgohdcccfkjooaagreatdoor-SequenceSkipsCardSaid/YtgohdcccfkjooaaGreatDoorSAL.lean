import Derived.Test.YtgohdcccfkjooaaGreatDoorSAJ
namespace Go.Proofs.YtgohdcccfkjooaaGreatDoor
set_option linter.all false
set_option maxRecDepth 100000
set_option maxHeartbeats 6400000
open Go.Proofs.Tryz Go.RowKit
def Pn(w:World)(s:gW)(zs:List Int)(n:Nat)(p v:Int)(e:Ending)(w':World):Prop:=
 (mw s zs n p v≠0/\e=.returned (.tuple #[.agg zS,.int .i64 (mw s zs n p v)])/\Below w w w')\/
 (mw s zs n p v=0/\ ∃a c,e=.returned (.tuple #[.agg #[.int .i64 (s.put p v).kind,.int .i64 (s.put p v).curv,.int .i64 (s.put p v).conic,.int .i64 (s.put p v).t6,.int .i64 (s.put p v).t7,.int .i64 (s.put p v).a0,.int .i64 (s.put p v).a1,.int .i64 (s.put p v).a2,.int .i64 (s.put p v).a3,.int .i64 (s.put p v).p0,.int .i64 (s.put p v).p1,.int .i64 (s.put p v).order,.int .i64 (s.put p v).t8,.string (s.put p v).i7,.int .i64 (s.put p v).r9,.int .i64 (s.put p v).p8,.int .i64 (s.put p v).dx,.int .i64 (s.put p v).dy,.int .i64 (s.put p v).ax,.int .i64 (s.put p v).ay,.int .i64 (s.put p v).az,Z a n c],oZ])/\jN (fun b=>w.heap.size<=b/\b<w'.heap.size) w' a n c zs/\(a=none->c=0)/\Below w w w')
def zr(s zs)(p v:Int)(a n c)(w:World)(hz:IR w w 3 a n c zs)(K:n<=1000000)(hc:a=none->c=0)(R:s.i7.size<=9223372036854775807):
 Calls prog 187 #[.agg (⟨s,a,n,c⟩:jt),p,v] w (Pn w s zs n p v):=by
 have h1:=Y.new w s a n c;have h2:=TL (w.alloc (.cells (⟨s,a,n,c⟩:jt) 70)) (.cells zS 70);have d:=gY (o:=.cells zS 70) (gY (o:=.cells (⟨s,a,n,c⟩:jt) 70) (TH w w));rw[nB]at h2;have f:=O h1;have r:=O h2;have D:=O hz;have Hc:=O hc;have m:=O d;clear h1 h2 hz hc d;go_enter func187,ntmps187;go_upto_region 1 with fail;refine gI (fun x=>Y x w s a n c/\x.heap[w.heap.size+1]? =some (.cells zS 70 (0,0))/\Below w w x) ⟨Y.go (B:=w.heap.size+1) f ((TH _ _).alloc (by simp) _) (by omega),r,m⟩ ?_;clear f r m;rintro w1 ⟨h1,h2,d⟩;have u:=h1.lt;have q:=TK h2;have f:=O h1;have r:=O h2;have m:=O d;clear h1 h2 d
 cases ho:oA s zs n with
 |false=>
  have F:nj s zs n p=110:=by unfold nj;rw[aj (by rw[ho];simp)]
  have j:mw s zs n p v=110:=by unfold mw;rw[F];rfl
  have Q:=O ho;have l:=O j;clear ho F j
  go_wp2_with(first
   |(refine gO f rfl (.tmp 3) rfl rfl ?_)
   |((with_reducible refine(lN s zs a n c _ (D.out.go m.out) K R).mono ?_);rintro e X ⟨t,d⟩;rw[Q]at t;subst t;have i:=O d;clear d)
   |(refine hE ⟨0,0,0,0,0,0,0,0,0,0,0,0,0,ik,0,0,0,0,0,0,0⟩ none 0 0 ((i.block _ q).trans r) rfl rfl (.tmp 6) (.tmp 11) rfl rfl rfl ?_))
  refine ar (lY (s:=⟨0,0,0,0,0,0,0,0,0,0,0,0,0,ik,0,0,0,0,0,0,0⟩) (a:=none) (n:=0) (c:=0) rfl rfl rfl (Y.stored ((i.block _ q).trans r) rfl _ _ _ _)) rfl ?_;exact VR ⟨by rw[l];decide,by rw[l];rfl,Below.put22 (I m i) (by omega) _ _ _ _⟩
 |true=>
  have y:vl s zs n p=tt s p:=by unfold vl;rw[ho];rfl
  cases hh:tt s p with
  |false=>
   have F:nj s zs n p=2:=by unfold nj;rw[aq ho,hh];rfl
   have j:mw s zs n p v=2:=by unfold mw;rw[F];rfl
   rw[hh]at y;have Q:=O ho;have l:=O j;have M:=O y;clear ho F j y hh
   go_wp2_with(first
    |(refine gO f rfl (.tmp 3) rfl rfl ?_)
    |(refine gO (Y.go f i u) rfl (.tmp 3) rfl rfl ?_)
    |((with_reducible refine(lN s zs a n c _ (D.out.go m.out) K R).mono ?_);rintro e X ⟨t,d⟩;rw[Q]at t;subst t;have i:=O d;clear d)
    |((with_reducible refine(vp s zs p a n c _ (D.out.go (I m.out i.out)) K R).mono ?_);rintro e w3 ⟨t,d⟩;rw[M]at t;subst t;have z:=O (I i d);clear d)
    |(refine hE ⟨0,0,0,0,0,0,0,0,0,0,0,0,0,ik,0,0,0,0,0,0,0⟩ none 0 0 ((z.block _ q).trans r) rfl rfl (.tmp 6) (.tmp 16) rfl rfl rfl ?_))
   refine ar (lY (s:=⟨0,0,0,0,0,0,0,0,0,0,0,0,0,ik,0,0,0,0,0,0,0⟩) (a:=none) (n:=0) (c:=0) rfl rfl rfl (Y.stored ((z.block _ q).trans r) rfl _ _ _ _)) rfl ?_;exact VR ⟨by rw[l];decide,by rw[l];rfl,Below.put22 (I m z) (by omega) _ _ _ _⟩
  |true=>
   have F:nj s zs n p=0:=by unfold nj;rw[aq ho,hh];rfl
   obtain⟨r1,r2⟩:=oM hh;rw[hh]at y;have Q:=O ho;have Hm:=O F;have M:=O y;clear ho F y hh
   go_upto_block 0 with(first
    |(refine gO f rfl (.tmp 3) rfl rfl ?_)
    |(refine gO (Y.go f i u) rfl (.tmp 3) rfl rfl ?_)
    |((with_reducible refine(lN s zs a n c _ (D.out.go m.out) K R).mono ?_);rintro e X ⟨t,d⟩;rw[Q]at t;subst t;have i:=O d;clear d)
    |((with_reducible refine(vp s zs p a n c _ (D.out.go (I m.out i.out)) K R).mono ?_);rintro e w3 ⟨t,d⟩;rw[M]at t;subst t;have z:=O (I i d);clear d))
   refine gI (fun x=>Y x w s a n c/\x.heap[w.heap.size+1]? =some (.cells zS 70 (0,0))/\Below w w x) ⟨f.go z u,(z.block _ q).trans r,I m z⟩ ?_;clear f r m i z u q;rintro w4 ⟨h1,h2,d⟩;have u:=h1.lt;have q:=TK h2;have f:=O h1;have r:=O h2;have m:=O d;clear h1 h2 d
   go_cut [7]from 18 to 74 (fun v7 x=>v7=.int .i64 0/\Y x w (s.put p v) a n c/\x.heap[w.heap.size+1]? =some (.cells zS 70 (0,0))/\Below w w x)
   case first=>
    have hq:=fun h1 h2=>f.put (p:=p) h1 h2 v
    obtain⟨k0,k1,k2,k3,k4,k5,k6,k7,k8,k9,a1,a2,a3,a4,a5,a6,a7,a8,a9,b0,b1,T⟩:=f.cells;have f1:=f.free 1;have f2:=f.free 2;have f3:=f.free 3;have f4:=f.free 4;have f5:=f.free 5;have f6:=f.free 6;have f7:=f.free 7;have f8:=f.free 8;have b6:=f.free 12;have b7:=f.free 14;have b8:=f.free 16;have b9:=f.free 17;have c0:=f.free 18;have c1:=f.free 19;have c2:=f.free 20;have f9:=f.free 9;have b5:=f.free 10;have P:Y (w4.setCell ⟨w.heap.size,mi p,none⟩ (.int .i64 v)) w (s.put p v) a n c/\(w4.setCell ⟨w.heap.size,mi p,none⟩ (.int .i64 v)).heap[w.heap.size+1]? =some (.cells zS 70 (0,0))/\Below w w (w4.setCell ⟨w.heap.size,mi p,none⟩ (.int .i64 v)):=⟨hq r1 r2,gF r _ (by simp) _,m.setCell (p:=⟨w.heap.size,mi p,none⟩) (aa _) _⟩;have W:=O P;clear hq P M Hm Q f r m
    obtain rfl|rfl|rfl|rfl|rfl|rfl|rfl|rfl|rfl|rfl|rfl|rfl|rfl|rfl|rfl|rfl|rfl:=oL r1 r2
    all_goals
     go_wp2;go_meet;exact⟨rfl,W⟩
   case rest=>
    obtain⟨rfl,h1,h2,d⟩:=hcut;have u:=h1.lt;have q:=TK h2;have f:=O h1;have r:=O h2;have m:=O d;clear h1 h2 d
    have a0:(s.put p v).i7.size<=9223372036854775807:=by
     obtain rfl|rfl|rfl|rfl|rfl|rfl|rfl|rfl|rfl|rfl|rfl|rfl|rfl|rfl|rfl|rfl|rfl:=oL r1 r2<;>exact R
    cases E:oA (s.put p v) zs n with
    |false=>
     have j:mw s zs n p v=2:=by unfold mw;rw[aq Hm.out,E];rfl
     have Hk:=O E;have l:=O j;clear E j
     go_wp2_with(first
      |(refine gO f rfl (.tmp 3) rfl rfl ?_)
      |((with_reducible refine(lN (s.put p v) zs a n c _ (D.out.go m.out) K a0).mono ?_);rintro e X ⟨t,d⟩;rw[Hk]at t;subst t;have i:=O d;clear d)
      |(refine hE ⟨0,0,0,0,0,0,0,0,0,0,0,0,0,ik,0,0,0,0,0,0,0⟩ none 0 0 ((i.block _ q).trans r) rfl rfl (.tmp 6) (.tmp 78) rfl rfl rfl ?_))
     refine ar (lY (s:=⟨0,0,0,0,0,0,0,0,0,0,0,0,0,ik,0,0,0,0,0,0,0⟩) (a:=none) (n:=0) (c:=0) rfl rfl rfl (Y.stored ((i.block _ q).trans r) rfl _ _ _ _)) rfl ?_;exact VR ⟨by rw[l];decide,by rw[l];rfl,Below.put22 (I m i) (by omega) _ _ _ _⟩
    |true=>
     have j:mw s zs n p v=0:=by unfold mw;rw[aq Hm.out,E];rfl
     have Hk:=O E;have l:=O j;clear E j
     go_upto_region 34 with(first
      |(refine gO f rfl (.tmp 3) rfl rfl ?_)
      |((with_reducible refine(lN (s.put p v) zs a n c _ (D.out.go m.out) K a0).mono ?_);rintro e X ⟨t,d⟩;rw[Hk]at t;subst t;have i:=O d;clear d))
     refine gI (fun x=>Y x w (s.put p v) a n c/\x.heap[w.heap.size+1]? =some (.cells zS 70 (0,0))/\Below w w x) ⟨f.go i u,(i.block _ q).trans r,I m i⟩ ?_;clear i f r m u q;rintro H ⟨h1,h2,d⟩;have u:=h1.lt;have q:=TK h2;obtain⟨k0,k1,k2,k3,k4,k5,k6,k7,k8,k9,a1,a2,a3,a4,a5,a6,a7,a8,a9,b0,b1,T⟩:=h1.cells;have f:=O h1;have r:=O h2;have m:=O d;clear h1 h2 d k0 k1 k2 k3 k4 k5 k6 k7 k8 k9 a1 a2 a3 a4 a5 a6 a7 a8 a9 b0 b1
     go_wp2_with(first
      |(refine je underlying68 Tryz.infoFilm3 rfl (by omega) (by omega) rfl (.tmp 79) (.tmp 81) rfl H (.slice (J (H.heap.size)) 0 0) 0 [] rfl (World.ownsRow_made H #[] 0 (aa _) (by simp) rfl) (fun b=>b<H.heap.size) a n c zs rfl (IR.irp ((D.go m).below ((TH _ _).alloc (aa _) _) (aa _)) (fun _ h=>h)) Hc (by omega) (by simp) ?_;intro v' L C A;obtain⟨a',c',rfl,y,hi⟩:=lc C;have hi:=jN.own (S:=fun b=>H.heap.size<=b/\b<L.heap.size) C (fun g h1 h2=>⟨h1,h2⟩);have N:Below H H L:=((TH _ _).alloc (aa _) _).grown A (by simp) (by intro k E;simp[Value.ownBlock]at E;omega);clear C A T;have fz:=Y.free (Y.go f N u) 21;have T:=(Y.cells (Y.go f N u)).2.2.2.2.2.2.2.2.2.2.2.2.2.2.2.2.2.2.2.2.2;have Hi:=O hi;have b2:=O y;have i:=O N;clear hi y N)
      |(refine gO (Y.coat (Y.go f i u) a' n c') rfl (.tmp 3) rfl rfl ?_)
      |(refine hE (s.put p v) a' n c' (gF ((i.block _ q).trans r) ⟨w.heap.size,21,none⟩ (by simp) _) rfl rfl (.tmp 6) (.tmp 84) rfl rfl rfl ?_))
     have b4:jN (fun b=>H.heap.size<=b/\b<L.heap.size) L a' n c' zs:=by have k:=Hi.out;rw[aV]at k;exact k
     have b3:=O b4;refine ar (lY (s:=s.put p v) (a:=a') (n:=n) (c:=c') rfl rfl rfl (Y.stored (gF ((i.block _ q).trans r) ⟨w.heap.size,21,none⟩ (by simp) _) rfl (s.put p v) a' n c')) rfl ?_;refine VS ⟨l,a',c',rfl,b3.kept ((gK w [_] 21 L).mono ?_|>.trans ((gK (w+1) (gX (s.put p v) a' n c') 0 _).mono ?_)) ?_,b2,?_⟩
     .intro b d;have:=d.1;omega
     .intro b d;have:=d.1;omega
     .intro b d
      refine⟨by have:=d.1;have:=m.size;omega,?_⟩;have:=im (w+1) (gX (s.put p v) a' n c') 0 (L.setCell ⟨w.heap.size,21,none⟩ (.slice a' n c'))
      show b<((L.setCell ⟨w.heap.size,21,none⟩ (.slice a' n c')).setCells (w+1) 0 (gX (s.put p v) a' n c')).heap.size
      rw[this];simpa using d.2
     .exact Below.put22 ((I m i).setCell (p:=⟨w.heap.size,21,none⟩) (aa _) _) (by omega) _ _ _ _
