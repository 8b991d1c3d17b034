import Derived.Test.YtlnbjinneegciabGreatDoorTAH
namespace Go.Proofs.YtlnbjinneegciabGreatDoor
set_option linter.all false
set_option maxRecDepth 100000
set_option maxHeartbeats 3200000
open Go.Proofs.Tryz Go.RowKit
def gW.get(s:gW)(p:Int):Int:=if p=1 then s.r9 else if p=2 then s.i4 else if p=3 then s.i5 else if p=4 then s.cm else if p=5 then s.a0 else if p=6 then s.a1 else if p=7 then s.a2 else if p=8 then s.a3 else if p=9 then s.tg else if p=10 then s.i6 else if p=11 then s.dx else if p=12 then s.dy else if p=13 then s.ax else if p=14 then s.ay else if p=15 then s.az else if p=16 then s.p0 else if p=17 then s.p1 else 0
def gW.put(s:gW)(p v:Int):gW:=if p=1 then{s with r9:=v} else if p=2 then{s with i4:=v} else if p=3 then{s with i5:=v} else if p=4 then{s with cm:=v} else if p=5 then{s with a0:=v} else if p=6 then{s with a1:=v} else if p=7 then{s with a2:=v} else if p=8 then{s with a3:=v} else if p=9 then{s with tg:=v} else if p=10 then{s with i6:=v} else if p=11 then{s with dx:=v} else if p=12 then{s with dy:=v} else if p=13 then{s with ax:=v} else if p=14 then{s with ay:=v} else if p=15 then{s with az:=v} else if p=16 then{s with p0:=v} else if p=17 then{s with p1:=v} else s
def mi(p:Int):Nat:=if p=1 then 1 else if p=2 then 2 else if p=3 then 3 else if p=4 then 4 else if p=5 then 5 else if p=6 then 6 else if p=7 then 7 else if p=8 then 8 else if p=9 then 12 else if p=10 then 14 else if p=11 then 16 else if p=12 then 17 else if p=13 then 18 else if p=14 then 19 else if p=15 then 20 else if p=16 then 9 else if p=17 then 10 else 0
def oL{p:Int}(h1:1<=p)(h2:p<=17):p=1\/p=2\/p=3\/p=4\/p=5\/p=6\/p=7\/p=8\/p=9\/p=10\/p=11\/p=12\/p=13\/p=14\/p=15\/p=16\/p=17:=by omega
def Y.put{w:World}{g:Nat}{s:gW}{a:Option Addr}{n c:Nat}(h:Y w g s a n c){p:Int}(h1:1<=p)(h2:p<=17)(v:Int):Y (w.setCell ⟨g,mi p,none⟩ (.int .i64 v)) g (s.put p v) a n c:=by
 have k:=gG h (mi p) (.int .i64 v);unfold Y;rw[k]
 obtain rfl|rfl|rfl|rfl|rfl|rfl|rfl|rfl|rfl|rfl|rfl|rfl|rfl|rfl|rfl|rfl|rfl:=oL h1 h2<;>rfl
def Y.getP{w:World}{g:Nat}{s:gW}{a:Option Addr}{n c:Nat}(h:Y w g s a n c){p:Int}(h1:1<=p)(h2:p<=17):w.cell? ⟨g,mi p,none⟩=some (.int .i64 (s.get p)):=by
 obtain⟨k0,k1,t,u,v,x,y,z,A,B,b,d,e,f,i,j,k,l,m,o,q,r⟩:=h.cells
 obtain rfl|rfl|rfl|rfl|rfl|rfl|rfl|rfl|rfl|rfl|rfl|rfl|rfl|rfl|rfl|rfl|rfl:=oL h1 h2<;>assumption
def oM{s:gW}{p:Int}(h:tt s p=true):1<=p/\p<=17:=by
 unfold tt nZ at h
 repeat' split at h
 all_goals simp at h;omega
def vT{s:gW}{zs:List Int}{n:Nat}(h:oA s zs n=true):1<=s.kind/\s.kind<=4:=by
 have h1:uX s zs n=true:=by unfold oA at h;simp at h;exact h.1
 have h2:=an.1 h1 0 (by simp);unfold pC rK at h2;simp[jr]at h2;omega
def nj(s:gW)(zs:List Int)(n:Nat)(p:Int):Int:=if oA s zs n=true then(if tt s p=true then 0 else 2)else 110
def xO(s:gW)(zs:List Int)(p:Int)(a:Option Addr)(n c:Nat)(w:World)(r:IR w w 3 a n c zs)(o:n<=1000000)(m:s.gA.size<=9223372036854775807)(q:jY w w):
 Calls prog 222 #[.agg (⟨s,a,n,c⟩:jt),p] w (iZ w (.int .i64 (nj s zs n p))):=by
 have i:=O (Y.new w s a n c);have d:=(TH w w).alloc (ag _) (.cells (⟨s,a,n,c⟩:jt) 58);have l:=O (r.go d);have t:=O (q.go d);have h:=O d;clear r q d;go_enter func222,ntmps222
 cases ho:oA s zs n with
 |false=>
  have g:=O ho;clear ho
  go_wp2_with(first
   |(refine gO i rfl (.tmp 2) rfl rfl ?_)
   |((with_reducible refine(nC s zs a n c _ l.out o m).mono ?_);rintro e x ⟨b,hb⟩;rw[g]at b;unfold err at b;simp only[de,bC]at b;subst b))
  go_ret;exact⟨by(unfold nj;rw[aj (by rw[g];simp)];rfl),I h hb⟩
 |true=>
  obtain⟨u,v⟩:=vT ho;have g:=O ho;clear ho;cases hh:tt s p
  all_goals
   have k:=O hh;clear hh
   go_wp2_with(first
    |(refine gO i rfl (.tmp 2) rfl rfl ?_)
    |(refine gO (Y.go i f (by simp)) rfl (.tmp 2) rfl rfl ?_)
    |((with_reducible refine(nC s zs a n c _ l.out o m).mono ?_);rintro e x ⟨b,hb⟩;rw[g]at b;unfold err at b;simp only[bX]at b;subst b;have f:=O hb;clear hb)
    |((with_reducible refine(Ep s p a n c _ (t.out.go f.out) u v).mono ?_);rintro e y ⟨b,j:HQ _⟩;rw[k]at b;subst b))
   go_ret;refine⟨?_,I h (I f j)⟩;unfold nj;rw[aq g.out,k];rfl
def vl(s:gW)(zs:List Int)(n:Nat)(p:Int):Bool:=oA s zs n&&tt s p
def MN(s:gW)(zs:List Int)(p:Int)(a:Option Addr)(n c:Nat)(w:World)(r:IR w w 3 a n c zs)(o:n<=1000000)(m:s.gA.size<=9223372036854775807)(q:jY w w):
 Calls prog 221 #[.agg (⟨s,a,n,c⟩:jt),p] w (iZ w (.bool (vl s zs n p))):=by
 have i:=O (Y.new w s a n c);have d:=(TH w w).alloc (ag _) (.cells (⟨s,a,n,c⟩:jt) 58);have l:=O (r.go d);have t:=O (q.go d);have h:=O d;clear r q d;go_enter func221,ntmps221
 cases ho:oA s zs n with
 |false=>
  have g:=O ho;clear ho
  go_wp2_with(first
   |(refine gO i rfl (.tmp 2) rfl rfl ?_)
   |((with_reducible refine(nC s zs a n c _ l.out o m).mono ?_);rintro e x ⟨b,hb⟩;rw[g]at b;unfold err at b;simp only[de,bC]at b;subst b))
  go_ret;exact⟨by unfold vl;rw[g];rfl,I h hb⟩
 |true=>
  obtain⟨u,v⟩:=vT ho;have g:=O ho;clear ho;cases hh:tt s p
  all_goals
   have k:=O hh;clear hh
   go_wp2_with(first
    |(refine gO i rfl (.tmp 2) rfl rfl ?_)
    |(refine zj (Y.go i f (by simp)) (by rfl) (.tmp 2) rfl rfl ?_)
    |((with_reducible refine(nC s zs a n c _ l.out o m).mono ?_);rintro e x ⟨b,hb⟩;rw[g]at b;unfold err at b;simp only[bX]at b;subst b;have f:=O hb;clear hb)
    |((with_reducible refine(Ep s p a n c _ (t.out.go f.out) u v).mono ?_);rintro e y ⟨b,j:HQ _⟩;rw[k]at b;subst b))
   go_ret;refine⟨?_,I h (I f j)⟩;unfold vl;rw[g,k];rfl
def Ke(h a v2 i j k l m n o b c d e f g:Value)(w:World):(Instr.index 305 (Value.agg #[h,a,v2,i,j,k,l,m,n,o,b,c,d,e,f,g]) (Value.int IntKind.i64 1)).run prog w=Result.ok a w:=by kernel_rfl
def Kf(g h v2 i j k l m n o a b c d e f:Value)(w:World):(Instr.index 305 (Value.agg #[g,h,v2,i,j,k,l,m,n,o,a,b,c,d,e,f]) (Value.int IntKind.i64 2)).run prog w=Result.ok v2 w:=by kernel_rfl
def Kh(h i v2 g j k l m n o a b c d e f:Value)(w:World):(Instr.index 305 (Value.agg #[h,i,v2,g,j,k,l,m,n,o,a,b,c,d,e,f]) (Value.int IntKind.i64 3)).run prog w=Result.ok g w:=by kernel_rfl
def Ki(h i v2 j g k l m n o a b c d e f:Value)(w:World):(Instr.index 305 (Value.agg #[h,i,v2,j,g,k,l,m,n,o,a,b,c,d,e,f]) (Value.int IntKind.i64 4)).run prog w=Result.ok g w:=by kernel_rfl
def Kj(h i v2 j k l m n o g a b c d e f:Value)(w:World):(Instr.index 305 (Value.agg #[h,i,v2,j,k,l,m,n,o,g,a,b,c,d,e,f]) (Value.int IntKind.i64 9)).run prog w=Result.ok g w:=by kernel_rfl
def GB(g h v2 i j k l m n o a b c d e f:Value)(w:World):(Instr.index 305 (Value.agg #[g,h,v2,i,j,k,l,m,n,o,a,b,c,d,e,f]) (Value.int IntKind.i64 10)).run prog w=Result.ok a w:=by kernel_rfl
def GC(g h v2 i j k l m n o b a c d e f:Value)(w:World):(Instr.index 305 (Value.agg #[g,h,v2,i,j,k,l,m,n,o,b,a,c,d,e,f]) (Value.int IntKind.i64 11)).run prog w=Result.ok a w:=by kernel_rfl
def GD(g h v2 i j k l m n o b c a d e f:Value)(w:World):(Instr.index 305 (Value.agg #[g,h,v2,i,j,k,l,m,n,o,b,c,a,d,e,f]) (Value.int IntKind.i64 12)).run prog w=Result.ok a w:=by kernel_rfl
def GE(g h v2 i j k l m n o b c d a e f:Value)(w:World):(Instr.index 305 (Value.agg #[g,h,v2,i,j,k,l,m,n,o,b,c,d,a,e,f]) (Value.int IntKind.i64 13)).run prog w=Result.ok a w:=by kernel_rfl
def GF(g h v2 i j k l m n o b c d e a f:Value)(w:World):(Instr.index 305 (Value.agg #[g,h,v2,i,j,k,l,m,n,o,b,c,d,e,a,f]) (Value.int IntKind.i64 14)).run prog w=Result.ok a w:=by kernel_rfl
def GG(g h v2 i j k l m n o b c d e f a:Value)(w:World):(Instr.index 305 (Value.agg #[g,h,v2,i,j,k,l,m,n,o,b,c,d,e,f,a]) (Value.int IntKind.i64 15)).run prog w=Result.ok a w:=by kernel_rfl
def Kk(g:Nat)(p:Int)(w:World)(h1:1<=p)(h2:p<=17):
 Calls prog 223 #[U g,p] w (iZ w (.pointer (some ⟨g,mi p,none⟩))):=by
 obtain rfl|rfl|rfl|rfl|rfl|rfl|rfl|rfl|rfl|rfl|rfl|rfl|rfl|rfl|rfl|rfl|rfl:=oL h1 h2
 .have r:=fun(h i v2 j k l m n o q a b c d e f:Value)(w:World)=>Ke h i v2 j k l m n o q a b c d e f w
  go_enter func223,ntmps223;go_wp2_with fail
  go_quiet (fail)
  go_wp2;go_ret;exact⟨rfl,gV (TH _ _) _⟩
 .have r:=fun(h i v2 j k l m n o q a b c d e f:Value)(w:World)=>Kf h i v2 j k l m n o q a b c d e f w
  go_enter func223,ntmps223;go_wp2_with fail
  go_quiet (fail)
  go_wp2;go_ret;exact⟨rfl,gV (TH _ _) _⟩
 .have r:=fun(h i v2 j k l m n o q a b c d e f:Value)(w:World)=>Kh h i v2 j k l m n o q a b c d e f w
  go_enter func223,ntmps223;go_wp2_with fail
  go_quiet (fail)
  go_wp2;go_ret;exact⟨rfl,gV (TH _ _) _⟩
 .have r:=fun(h i v2 j k l m n o q a b c d e f:Value)(w:World)=>Ki h i v2 j k l m n o q a b c d e f w
  go_enter func223,ntmps223;go_wp2_with fail
  go_quiet (fail)
  go_wp2;go_ret;exact⟨rfl,gV (TH _ _) _⟩
 .go_enter func223,ntmps223
  go_wp2;go_ret;exact⟨rfl,TH _ _⟩
 .go_enter func223,ntmps223
  go_wp2;go_ret;exact⟨rfl,TH _ _⟩
 .go_enter func223,ntmps223
  go_wp2;go_ret;exact⟨rfl,TH _ _⟩
 .go_enter func223,ntmps223
  go_wp2;go_ret;exact⟨rfl,TH _ _⟩
 .have r:=fun(h i v2 j k l m n o q a b c d e f:Value)(w:World)=>Kj h i v2 j k l m n o q a b c d e f w
  go_enter func223,ntmps223;go_wp2_with fail
  go_quiet (fail)
  go_wp2;go_ret;exact⟨rfl,gV (TH _ _) _⟩
 .have r:=fun(h i v2 j k l m n o q a b c d e f:Value)(w:World)=>GB h i v2 j k l m n o q a b c d e f w
  go_enter func223,ntmps223;go_wp2_with fail
  go_quiet (fail)
  go_wp2;go_ret;exact⟨rfl,gV (TH _ _) _⟩
 .have r:=fun(h i v2 j k l m n o q a b c d e f:Value)(w:World)=>GC h i v2 j k l m n o q a b c d e f w
  go_enter func223,ntmps223;go_wp2_with fail
  go_quiet (fail)
  go_wp2;go_ret;exact⟨rfl,gV (TH _ _) _⟩
 .have r:=fun(h i v2 j k l m n o q a b c d e f:Value)(w:World)=>GD h i v2 j k l m n o q a b c d e f w
  go_enter func223,ntmps223;go_wp2_with fail
  go_quiet (fail)
  go_wp2;go_ret;exact⟨rfl,gV (TH _ _) _⟩
 .have r:=fun(h i v2 j k l m n o q a b c d e f:Value)(w:World)=>GE h i v2 j k l m n o q a b c d e f w
  go_enter func223,ntmps223;go_wp2_with fail
  go_quiet (fail)
  go_wp2;go_ret;exact⟨rfl,gV (TH _ _) _⟩
 .have r:=fun(h i v2 j k l m n o q a b c d e f:Value)(w:World)=>GF h i v2 j k l m n o q a b c d e f w
  go_enter func223,ntmps223;go_wp2_with fail
  go_quiet (fail)
  go_wp2;go_ret;exact⟨rfl,gV (TH _ _) _⟩
 .have r:=fun(h i v2 j k l m n o q a b c d e f:Value)(w:World)=>GG h i v2 j k l m n o q a b c d e f w
  go_enter func223,ntmps223;go_wp2_with fail
  go_quiet (fail)
  go_wp2;go_ret;exact⟨rfl,gV (TH _ _) _⟩
 .go_enter func223,ntmps223
  go_wp2;go_ret;exact⟨rfl,TH _ _⟩
 .go_enter func223,ntmps223
  go_wp2;go_ret;exact⟨rfl,TH _ _⟩
def vm{s:gW}{zs:List Int}{n:Nat}{p:Int}(h:nj s zs n p=0):oA s zs n=true/\tt s p=true:=by
 unfold nj at h;split at h
 .split at h
  .exact⟨by assumption,by assumption⟩
  .cases h
 .cases h
def mw(s:gW)(zs:List Int)(n:Nat)(p v:Int):Int:=if nj s zs n p=0 then(if oA (s.put p v) zs n=true then 0 else 2)else nj s zs n p
def QM(w:World)(s:gW)(zs:List Int)(n:Nat)(p v:Int)(e:Ending)(w':World):Prop:=
 (mw s zs n p v≠0/\e=.returned (.tuple #[.agg zS,.int .i64 (mw s zs n p v)])/\Below w w w')\/
 (mw s zs n p v=0/\ ∃a c,e=.returned (.tuple #[.agg #[.int .i64 (s.put p v).kind,.int .i64 (s.put p v).r9,.int .i64 (s.put p v).i4,.int .i64 (s.put p v).i5,.int .i64 (s.put p v).cm,.int .i64 (s.put p v).a0,.int .i64 (s.put p v).a1,.int .i64 (s.put p v).a2,.int .i64 (s.put p v).a3,.int .i64 (s.put p v).p0,.int .i64 (s.put p v).p1,.int .i64 (s.put p v).order,.int .i64 (s.put p v).tg,.string (s.put p v).gA,.int .i64 (s.put p v).i6,.int .i64 (s.put p v).i7,.int .i64 (s.put p v).dx,.int .i64 (s.put p v).dy,.int .i64 (s.put p v).ax,.int .i64 (s.put p v).ay,.int .i64 (s.put p v).az,Z a n c],oZ])/\IRp (fun b=>w.heap.size<=b/\b<w'.heap.size) w' 3 a n c zs/\(a=none->c=0)/\Below w w w')
def MO(s:gW)(zs:List Int)(p v:Int)(a:Option Addr)(n c:Nat)(w:World)(hz:IR w w 3 a n c zs)(F:n<=1000000)(t:a=none->c=0)(hg:s.gA.size<=9223372036854775807)(hp:jY w w):
 Calls prog 196 #[.agg (⟨s,a,n,c⟩:jt),p,v] w (QM w s zs n p v):=by
 have k:=O (Y.new w s a n c);have h2:=TL (w.alloc (.cells (⟨s,a,n,c⟩:jt) 58)) (.cells zS 58);have g:=O (gY (o:=.cells zS 58) (gY (o:=.cells (⟨s,a,n,c⟩:jt) 58) (TH w w)));rw[Wf]at h2;have q:=O h2;have E:=O hz;have Hc:=O t;have Hp:=O hp;clear h2 hz t hp;go_enter func196,ntmps196;go_upto_region 1 with fail;refine gI (fun r=>Y r w s a n c/\r.heap[w.heap.size+1]? =some (.cells zS 58 (0,0))/\Below w w r) ⟨Y.go (B:=w.heap.size+1) k ((TH _ _).alloc (by simp) _) (by omega),q,g⟩ ?_;clear k q g;rintro w1 ⟨h1,h2,hb⟩;have l:=h1.lt;have h:=TK h2;have k:=O h1;have q:=O h2;have g:=O hb;clear h1 h2 hb;by_cases u:nj s zs n p=0
 .obtain⟨q1,q2⟩:=vm u
  obtain⟨X,r2⟩:=oM q2;have D:=O u;clear u q1 q2
  go_upto_region 5 with(first
   |(refine gO k rfl (.tmp 3) rfl rfl ?_)
   |((with_reducible refine(xO s zs p a n c _ (E.out.go g.out) F hg (Hp.out.go g.out)).mono ?_);rintro e x ⟨j,hb⟩;rw[D]at j;subst j;have d:=O hb;clear hb)
   |((with_reducible refine(Kk w p _ X r2).mono ?_);rintro e w3 ⟨j,hb⟩;subst j;have y:=O hb;clear hb;have A:=Y.go (Y.go k d l) y (eb l d.size);have t:=A.getP X r2;have fz:=A.free (mi p);have a0:=O A;clear A))
  refine gI (fun r=>Y r w (s.put p v) a n c/\r.heap[w.heap.size+1]? =some (.cells zS 58 (0,0))/\Below w w r) ⟨a0.put X r2 v,gF ((y.block _ (eb h d.size)).trans ((d.block _ h).trans q)) ⟨w.heap.size,mi p,none⟩ (by simp) _,(I g (I d y)).setCell (p:=⟨w.heap.size,mi p,none⟩) (ag _) _⟩ ?_;clear t fz a0 y d k q g l h;rintro w4 ⟨h1,h2,hb⟩;have l:=h1.lt;have h:=TK h2;obtain⟨k0,k1,k2,k3,k4,k5,k6,k7,k8,k9,H,K,L,M,N,P,Q,R,S,T,W,C⟩:=h1.cells;have k:=O h1;have q:=O h2;have g:=O hb;clear h1 h2 hb k0 k1 k2 k3 k4 k5 k6 k7 k8 k9 H K L M N P Q R S T W
  have a1:(s.put p v).gA.size<=9223372036854775807:=by
   obtain rfl|rfl|rfl|rfl|rfl|rfl|rfl|rfl|rfl|rfl|rfl|rfl|rfl|rfl|rfl|rfl|rfl:=oL X r2<;>exact hg
  cases hk:oA (s.put p v) zs n with
  |false=>
   have f:mw s zs n p v=2:=by unfold mw;rw[aq D.out,hk];rfl
   have Hk:=O hk;have i:=O f;clear hk f
   go_wp2_with(first
    |(refine gO k rfl (.tmp 3) rfl rfl ?_)
    |((with_reducible refine(nC (s.put p v) zs a n c _ (E.out.go g.out) F a1).mono ?_);rintro e x ⟨j,hb⟩;rw[Hk]at j;unfold err at j;simp only[de,bC]at j;subst j;have d:=O hb;clear hb)
    |(refine hE ⟨0,0,0,0,0,0,0,0,0,0,0,0,0,ik,0,0,0,0,0,0,0⟩ none 0 0 ((d.block _ h).trans q) rfl rfl (.tmp 6) (.tmp 23) rfl rfl rfl ?_))
   refine ar (lY (s:=⟨0,0,0,0,0,0,0,0,0,0,0,0,0,ik,0,0,0,0,0,0,0⟩) (a:=none) (n:=0) (c:=0) rfl rfl rfl (Y.stored ((d.block _ h).trans q) rfl _ _ _ _)) rfl ?_;exact VR ⟨by rw[i];decide,by rw[i];rfl,Below.put22 (I g d) (by omega) _ _ _ _⟩
  |true=>
   have f:mw s zs n p v=0:=by unfold mw;rw[aq D.out,hk];rfl
   have Hk:=O hk;have i:=O f;clear hk f
   go_upto_region 7 with(first
    |(refine gO k rfl (.tmp 3) rfl rfl ?_)
    |((with_reducible refine(nC (s.put p v) zs a n c _ (E.out.go g.out) F a1).mono ?_);rintro e x ⟨j,hb⟩;rw[Hk]at j;unfold err at j;simp only[bX]at j;subst j;have d:=O hb;clear hb))
   refine gI (fun r=>Y r w (s.put p v) a n c/\r.heap[w.heap.size+1]? =some (.cells zS 58 (0,0))/\Below w w r) ⟨k.go d l,(d.block _ h).trans q,I g d⟩ ?_;clear C d k q g l h;rintro w5 ⟨h1,h2,hb⟩;have l:=h1.lt;have h:=TK h2;obtain⟨k0,k1,k2,k3,k4,k5,k6,k7,k8,k9,H,K,L,M,N,P,Q,R,S,T,W,C⟩:=h1.cells;have k:=O h1;have q:=O h2;have g:=O hb;clear h1 h2 hb k0 k1 k2 k3 k4 k5 k6 k7 k8 k9 H K L M N P Q R S T W
   go_wp2_with(first
    |((with_reducible refine(YM zs a n c _ (E.out.go g.out) F Hc.out).mono ?_);rintro e x ⟨a',c',rfl,hi,t,z⟩;clear C;have fz:=Y.free (Y.go k z l) 21;have C:=(Y.cells (Y.go k z l)).2.2.2.2.2.2.2.2.2.2.2.2.2.2.2.2.2.2.2.2.2;have Hi:=O hi;have a2:=O t;have d:=O z;clear hi t z)
    |(refine gO (Y.p8 (Y.go k d l) a' n c') rfl (.tmp 3) rfl rfl ?_)
    |(refine hE (s.put p v) a' n c' (gF ((d.block _ h).trans q) ⟨w.heap.size,21,none⟩ (by simp) _) rfl rfl (.tmp 6) (.tmp 28) rfl rfl rfl ?_))
   refine ar (lY (s:=s.put p v) (a:=a') (n:=n) (c:=c') rfl rfl rfl (Y.stored (gF ((d.block _ h).trans q) ⟨w.heap.size,21,none⟩ (by simp) _) rfl (s.put p v) a' n c')) rfl ?_;refine VS ⟨i,a',c',rfl,Hi.kept ((gK w [_] 21 x).mono ?_|>.trans ((gK (w+1) (gX (s.put p v) a' n c') 0 _).mono ?_)) ?_,a2,?_⟩
   .intro b hb;have:=hb.1;omega
   .intro b hb;have:=hb.1;omega
   .intro b hb
    refine⟨by have:=hb.1;have:=g.size;omega,?_⟩;have:=im (w+1) (gX (s.put p v) a' n c') 0 (x.setCell ⟨w.heap.size,21,none⟩ (.slice a' n c'))
    show b<((x.setCell ⟨w.heap.size,21,none⟩ (.slice a' n c')).setCells (w+1) 0 (gX (s.put p v) a' n c')).heap.size
    rw[this];simpa using hb.2
   .exact Below.put22 ((I g d).setCell (p:=⟨w.heap.size,21,none⟩) (ag _) _) (by omega) _ _ _ _
 .have f:mw s zs n p v=nj s zs n p:=by unfold mw;rw[aj u]
  have a3:(nj s zs n p !=0)=true:=by simpa using u
  generalize hm:nj s zs n p=m at*;have D:=O u;have i:=O f;have Hm:=O hm;clear hm u f
  go_wp2_with(first
   |(refine gO k rfl (.tmp 3) rfl rfl ?_)
   |((with_reducible refine(xO s zs p a n c _ (E.out.go g.out) F hg (Hp.out.go g.out)).mono ?_);rintro e x ⟨j,hb⟩;rw[Hm]at j;subst j;have d:=O hb;clear hb)
   |(refine hE ⟨0,0,0,0,0,0,0,0,0,0,0,0,0,ik,0,0,0,0,0,0,0⟩ none 0 0 ((d.block _ h).trans q) rfl rfl (.tmp 6) (.tmp 14) rfl rfl rfl ?_))
  refine ar (lY (s:=⟨0,0,0,0,0,0,0,0,0,0,0,0,0,ik,0,0,0,0,0,0,0⟩) (a:=none) (n:=0) (c:=0) rfl rfl rfl (Y.stored ((d.block _ h).trans q) rfl _ _ _ _)) rfl ?_;exact VR ⟨by rw[i];exact D,by rw[i];rfl,Below.put22 (I g d) (by omega) _ _ _ _⟩
def Eq(l:List gM)(i:Nat)(p:Int):Bool:=match l[i]? with
 |some x=>vl x.s x.zs (x.zs.length/3) p
 |none=>false
def qx(l:List gM)(i p:Int):Bool:=bt i 0 ((l.length:Int)-1)&&Eq l i.toNat p&& ((p !=9)||decide (i<(l.length:Int)-1))
def Er(l:List gM)(a:Option Addr)(n c:Nat)(i p:Int)(w:World)(h:RR jE 22 (fun b=>b<w.heap.size) w a n c l)(T:n<=1000000)(F:jY w w):
 Calls prog 195 #[Z a n c,i,p] w (iZ w (.bool (qx l i p))):=by
 have j:=h.1;have H:=O h;have P:=O F;clear h F
 have z:qx l i p=(bt i 0 ((n:Int)-1)&&Eq l i.toNat p&& ((p !=9)||decide (i<(n:Int)-1))):=by unfold qx;rw[j]
 have r:=O z;clear z;go_enter func195,ntmps195
 cases hb0:bt i 0 ((n:Int)-1)with
 |false=>
  have d:=O hb0;clear hb0
  go_wp2_with((with_reducible refine(jc _ _ _ _).mono ?_);rintro e S ⟨f,hb⟩;rw[d]at f;subst f)
  go_ret;exact⟨by rw[r,d];rfl,hb⟩
 |true=>
  have hi:0<=i/\i<=(n:Int)-1:=by simpa[bt]using hb0
  obtain⟨k,rfl⟩:∃k:Nat,i=(k:Int):=⟨i.toNat,by omega⟩
  have D:k<n:=by omega
  have d:=O hb0;clear hb0 hi;obtain⟨b,off,x,cs,rfl,hlt,L,⟨a2,q,c2,rfl,o,E,C,m⟩,K⟩:=H.at D
  have A:Eq l (k:Int).toNat p=vl x.s x.zs q p:=by unfold Eq;rw[aI,L];simp only;rw[<- mU o]
  have N:=O A;have R:=O (o.ir (fun _ h=>h));have Q:=O K;have u:=O m;clear A L o C K m;cases hv:vl x.s x.zs q p<;>cases h9:(p !=9) <;>cases hlast:decide ((k:Int) <(n:Int)-1)
  all_goals
   have y:=O hv;have M:=O h9;have v:=O hlast;clear hv;simp only[aD,dQ]at hlast
   go_wp2_with(first
    |(refine pW (jb Q (gE B) hlt) (by rfl) (.tmp 15) rfl rfl ?_)
    |((with_reducible refine(jc _ _ _ _).mono ?_);rintro e S ⟨f,hb⟩;rw[d]at f;subst f;have B:=hb;have g:=O hb)
    |((with_reducible refine(MN x.s x.zs p _ q c2 _ (R.out.go g.out) E u.out (P.out.go g.out)).mono ?_);rintro e W ⟨f,t:HQ _⟩;rw[y]at f;subst f))
   go_ret;exact⟨by rw[r,d,N,y,M,v];rfl,I g t⟩
def CY{P:Program}{f:Oper}{e:Act}{y:World}{b o:Nat}{s:gW}{a:Option Addr}{n c:Nat}{d:TypeDesc}(h:y.rangeAt b o (gX s a n c))(j:P.underlying 58=some d)(g:d.isRow=true)(hi:(P.info? 58).map (·.size)=some 22)(x:Operand)(i:f.op=.load 58 x)
 (k:e.eval x=.pointer (some ⟨b,o,none⟩)):(execOp e.eval f).run P y=.ok (.value (.agg (⟨s,a,n,c⟩:jt))) y:=by
 unfold execOp;simp only[i,k,Instr.loadAt,Instr.sureAddr,bR,cT,bU,run_loadVar_mid y b o 58 (gX s a n c) d h j g hi];rfl
def pE{ops:Array Oper}{Q:Exit->Act->World->Prop}{N i:Nat}{g:List Nat}{fs:List (Nat×Tmp×Obj)}{C:Nat->Prop}{d:List (Nat×Bool)}{f:Oper}{e:Act}{w:World}(hi:ops.toList[i]? =some f)(j:g.contains i=false)
 (hw:Region.wanted f (yielded ops e.tmps)=true){b o:Nat}{s:gW}{a:Option Addr}{n c:Nat}(h:∀y,Below w w y->y.rangeAt b o (gX s a n c))(x:Operand)(l:f.op=.load 58 x)
 (m:e.eval x=.pointer (some ⟨b,o,none⟩))(k:Bx prog ops Q N g fs C d (e.put f.dst (.agg (⟨s,a,n,c⟩:jt))) w):Bx prog ops Q N g fs C ((i,true)::d) e w:=
 gZ (fun y p=>CY (h y p) underlying58 rfl Tryz.infoSurf x l m) k hi j hw
def pX{ops:Array Oper}{d:List Oper}{f:Oper}{e:Act}{w:World}{Q:Exit->Act->World->Prop}{b o:Nat}(s:gW)(a:Option Addr)(n c:Nat)(h:w.there b o 22)(g:f.guard=none)(x y:Operand)(j:f.op=.store 58 x y)
 (k:e.eval x=.pointer (some ⟨b,o,none⟩))(l:e.eval y=.agg (⟨s,a,n,c⟩:jt))(i:wpList prog ops Q d (e.put f.dst undef) (w.setCells b o (gX s a n c))):wpList prog ops Q (f::d) e w:=
 wpList_store_mid g 58 x y j b o (⟨s,a,n,c⟩:jt) k l h Tryz.infoSurf (by simp[Value.oneCell']) i
def nT(l:List gM)(i p v:Int):Bool:=qx l i p&& (match l[i.toNat]? with
 |some x=>decide (mw x.s x.zs (x.zs.length/3) p v=0)
 |none=>false)
def qy(l:List gM)(i p v:Int):List gM:=match l[i.toNat]? with
 |some x=>if nT l i p v then l.set i.toNat ⟨x.s.put p v,x.zs⟩else l
 |none=>l
def QN(w:World)(g n c base:Nat)(l:List gM)(i p v:Int)(e:Ending)(w':World):Prop:=
 e=.returned (.bool (nT l i p v))/\jD jE 22 58 base w' (.slice (J g) n c) (qy l i p v)/\w.grownBy w' (some g)
def tM{w w':World}{row:Option Nat}(h:Below w w w'):w.grownBy w' row:=⟨h.os,h.tape,h.output,h.size,fun k a _=>h.block k a⟩
def zo{w w':World}(h:Below w w w')(g o:Nat)(a:List Value):w.grownBy (w'.setCells g o a) (some g):=by
 have h0:=ig (aA g) a o (h.mono (aA _));refine⟨h0.os,h0.tape,h0.output,by rw[im];exact h.size,fun k c b=>?_⟩;exact(gK g a o w' k (fun e=>b (by rw[e]))).trans (h.block k c)
def kE{w:World}{g:Nat}{x y z:Value}{T:TypeId}(h:w.heap[g]? =some (.cells #[x,y,z] T (0,0))):w.cell? (J g)=some x/\w.cell? ⟨g,1,none⟩=some y/\w.cell? ⟨g,2,none⟩=some z:=by
 refine⟨?_,?_,?_⟩ <;>simp[World.cell?,h]
def Pm(l:List gM)(g n c base:Nat)(i p v:Int)(w:World)(h:jD jE 22 58 base w (.slice (J g) n c) l)(hn:n<=1000000)(hp:jY w w):
 Calls prog 157 #[Z (J g) n c,.agg #[i,p,v]] w (QN w g n c base l i p v):=by
 have a3:=h.rr iD;have a7:=a3.1;have D:=O (show Below w w (w.alloc (.cells #[i,p,v] 64))from(TH _ _).alloc (ag _) _);have H:=O h;have Hr:=O a3;have Hp:=O hp;clear h hp a3;go_enter func157,ntmps157
 cases hh:qx l i p with
 |false=>
  have d:nT l i p v=false:=by unfold nT;rw[hh];rfl
  have a:qy l i p v=l:=by unfold qy;split<;>simp[d]
  have Hh:=O hh;have t:=O d;have f:=O a;clear hh d a
  go_wp2_with((with_reducible refine(Er l _ n c i p _ (Hr.out.go iD D.out) hn (Hp.out.go D.out)).mono ?_);rintro e w2 ⟨he,hb⟩;rw[Hh]at he;subst he;have E:=O (I D hb);clear hb)
  go_ret;exact⟨by rw[t];rfl,by rw[f];exact H.go iD E,tM E⟩
 |true=>
  have c8:0<=i/\i<=(n:Int)-1:=by
   unfold qx at hh;simp only[am]at hh;have:=hh.1.1;rw[a7]at this;simpa[bt]using this
  obtain⟨k,rfl⟩:∃k:Nat,i=(k:Int):=⟨i.toNat,by omega⟩
  have d2:k<n:=by omega
  have Hh:=O hh;clear hh c8
  have W:k<l.length:=by omega
  have hN:w.heap.size<(w.alloc (.cells #[.int .i64 (k:Int),p,v] 64)).heap.size:=by simp
  have M:=O (TL w (.cells #[.int .i64 (k:Int),p,v] 64))
  go_upto_region 3 with((with_reducible refine(Er l _ n c k p _ (Hr.out.go iD D.out) hn (Hp.out.go D.out)).mono ?_);rintro e w2 ⟨he,hb⟩;rw[Hh]at he;subst he;have E:=O hb;clear hb)
  refine gI (fun u=>u.heap[w.heap.size]? =some (.cells #[.int .i64 (k:Int),p,v] 64 (0,0))/\Below w w u) ⟨(E.block _ hN).trans M,I D E⟩ ?_;clear E D M hN w2;rintro w2 ⟨S,hb⟩;have X:=TK S;obtain⟨q0,q1,q2⟩:=kE S;have H2:=O (H.go iD hb);obtain⟨cs,⟨a2,B,c2,rfl,hz,b9,b4,b5⟩,a0⟩:=H2.at iD W
  have hgl:g<w2.heap.size:=by
   obtain ⟨e,_⟩|⟨g',_,e,_,q,_,_,_⟩:=H2.form
   .cases e
   .cases e;exact q
  have d1:g<w.heap.size:=by
   obtain ⟨e,_⟩|⟨g',_,e,_,q,_,_,_⟩:=H.form
   .cases e
   .cases e;exact q
  have Hx:=O (show l[k]? =some l[k]from ae W);generalize l[k]=x at*;have b0:=O (mU hz);have Hz:=O (hz.ir (fun _ h=>h));have a8:=O b5;have c3:=O b4;have a5:=O a0;have Hb:=O hb;have M:=O S;clear hz b5 b4 a0 hb S;refine ic 14 [12] [(13,5,.cells zS 58)] [(0,true),(1,true),(2,true),(3,true),(4,true),(5,true),(6,true),(7,true),(8,true),(9,false),(10,true),(11,true),(12,true)] (by kernel_rfl) (by kernel_rfl) ⟨by simp,by simp,by(simp only[ct];exact⟨⟨by omega,_,rfl,rfl,rfl,fun _ _=>rfl⟩,fun _ h=>by cases h⟩)⟩ (fun _ _ _ _ _ h=>h) (fun _ _ o _ _ h=>by cases o<;>exact h) ?_
  iterate 4
   refine gZ (v:=?_) ?_ ?_;rotate_left
   .intro y hy
    have z0:=(hy.cell (p:=J (w.heap.size)) X).trans q0;go_simp;rfl
   try simp only[V]
  refine pE rfl rfl (by rfl) (fun y hy=>jb a5 (gE (gJ (k:=1) hy)) hgl) _ rfl rfl ?_;try simp only[V]
  iterate 4
   refine gZ (v:=?_) ?_ ?_;rotate_left
   .intro y hy
    have z1:=(hy.cell (p:=⟨w.heap.size,1,none⟩) X).trans q1;have z2:=(hy.cell (p:=⟨w.heap.size,2,none⟩) X).trans q2;go_simp;rfl
   try simp only[V]
  refine iK (fun x1 a4 K hK=>?_);go_simp;have j:Below w2 w2 x1:=gJ (k:=1) a4;have P:=I Hb j;refine(MO x.s x.zs p v a2 B c2 _ (Hz.go j) b9 c3 a8 (Hp.go P)).mono ?_;rintro e w3 (⟨h1,rfl,z⟩|⟨h0,a',c',rfl,hi,b3,z⟩)
  .refine hK _ _ z ?_
   clear hK K
   iterate 3
    refine iy (v:=?_) ?_ ?_;rotate_left
    .intro y
     go_simp;rfl
    try simp only[V]
   refine nV (l:=[_,_]) rfl (fun b1 w4 hC A N=>?_);try simp only[V]
   have d:nT l k p v=false:=by unfold nT;rw[aI,Hx];simp only;rw[<- b0];simp[h1]
   have a:qy l k p v=l:=by unfold qy;split<;>simp[d]
   have d3:(mw x.s x.zs B p v==0)=false:=by simpa using h1
   have L:=O (I P (I z A));have a1:w.heap.size<=b1:=af Hb.size hC.1;have t:=O d;have f:=O a;have F:=O N;clear d a h1 N z A P a4 j;generalize mw x.s x.zs B p v=m at*
   go_wp2_with(refine hE ⟨0,0,0,0,0,0,0,0,0,0,0,0,0,ik,0,0,0,0,0,0,0⟩ none 0 0 F rfl rfl (.tmp 5) (.tmp 25) rfl rfl rfl ?_;refine jJ (fun u=>Below w w u) (Below.put22 L a1 ⟨0,0,0,0,0,0,0,0,0,0,0,0,0,ik,0,0,0,0,0,0,0⟩ none 0 0) ?_;clear F;rintro w5 r;have C:=O r;clear r)
   go_ret;exact⟨by rw[t];rfl,by rw[f];exact H.go iD C,tM C⟩
  .refine hK _ _ z ?_
   clear hK K
   iterate 3
    refine iy (v:=?_) ?_ ?_;rotate_left
    .intro y
     go_simp;rfl
    try simp only[V]
   refine nV (l:=[_,_]) rfl (fun b1 w4 hC A N=>?_);try simp only[V]
   have d:nT l k p v=true:=by unfold nT;rw[Hh,aI,Hx];simp only;rw[<- b0];simp[h0]
   have a:qy l k p v=l.set k ⟨x.s.put p v,x.zs⟩:=by unfold qy;rw[aI,Hx];simp[d]
   have R:=I P (I z A);have a1:w.heap.size<=b1:=af Hb.size hC.1;have b7:IRp (fun b=>w.heap.size<=b/\b<w4.heap.size/\b≠g/\b≠b1) w4 3 a' B c' x.zs:=hi.kept (fun b hb=>A.block b hb.2) (fun b hb=>⟨by have:=hb.1;have:=j.size;have:=Hb.size;omega,by have:=A.size;omega,by have:=j.size;omega,by have:=hC.2;omega⟩);have t:=O d;have f:=O a;have F:=O N;have L:=O R;have a9:=O b7;have c1:=O b3
   have c7:(x.s.put p v).gA.size<=9223372036854775807:=by
    obtain⟨_,c9⟩:=vm (show nj x.s x.zs B p=0 from by
     apply bg;intro hc
     unfold mw at h0;rw[aj hc]at h0;exact hc h0)
    obtain⟨r1,r2⟩:=oM c9
    obtain rfl|rfl|rfl|rfl|rfl|rfl|rfl|rfl|rfl|rfl|rfl|rfl|rfl|rfl|rfl|rfl|rfl:=oL r1 r2<;>exact a8
   have a6:b1≠w.heap.size:=by have:=hC.1;omega
   have Q:=O ((I j (I z A)).block _ X|>.trans M)
   have d0:b1≠g:=by omega
   have c6:base<=w.heap.size:=by
    obtain ⟨e,_⟩|⟨g',_,e,q,q2,_⟩:=H.form
    .cases e
    .omega
   clear d a N R z A P a4 j b7 hi b3 q0 q1 q2 M
   go_wp2_with(first
    |(refine hE (x.s.put p v) a' B c' F rfl rfl (.tmp 5) (.tmp 25) rfl rfl rfl ?_;refine jJ (fun u=>Y u b1 (x.s.put p v) a' B c'/\u.heap[w.heap.size]? =some (.cells #[.int .i64 (k:Int),p,v] 64 (0,0))/\Below w w u/\IRp (fun b=>w.heap.size<=b/\b<u.heap.size/\b≠g) u 3 a' B c' x.zs) ⟨Y.stored F rfl _ _ _ _,vS.other Q a6 _ _ _ _,Below.put22 L a1 _ _ _ _,a9.kept ((gK b1 (gX (x.s.put p v) a' B c') 0 w4).mono (fun b hb=>hb.2.2.2)) (fun b hb=>⟨hb.1,by have e:=im b1 (gX (x.s.put p v) a' B c') 0 w4;exact eb hb.2.1 (Nat.le_of_eq e.symm),hb.2.2.1⟩)⟩ ?_;clear F Q a9;rintro w5 ⟨c0,T,r,b8⟩;obtain⟨q0,q1,q2⟩:=kE T;have b2:=O c0;have C:=O r;have c5:=O b8;have H5:=O (H.go iD r);clear c0 r b8 T)
    |(refine gO b2 rfl (.tmp 5) rfl rfl ?_)
    |(refine pX (x.s.put p v) a' B c' (H5.there W) rfl _ _ rfl rfl rfl ?_;refine jJ (fun u=>jD jE 22 58 base u (.slice (J g) n c) (l.set k ⟨x.s.put p v,x.zs⟩)/\w.grownBy u (some g)) ⟨H5.set iD W ⟨a',B,c',rfl,c5.kept (gN.refl _ _) (fun b hb=>⟨af c6 hb.1,hb.2⟩),b9,c1,c7⟩,zo C g _ _⟩ ?_;clear b2 H5;rintro w6 ⟨h6,b6⟩;have H6:=O h6;have c4:=O b6;clear h6 b6))
   go_ret;exact⟨by rw[t];rfl,by rw[f];exact H6,c4⟩
def tu(l:List gM)(zs:List Int):Nat->Option (List gM)
 |0=>some l
 |k+1=>(tu l zs k).bind fun l'=>if oK zs k (zs.getD (k*3) 0) (zs.getD (k*3+1) 0)=false/\nT l' (zs.getD (k*3) 0) (zs.getD (k*3+1) 0) (zs.getD (k*3+2) 0)=true then some (qy l' (zs.getD (k*3) 0) (zs.getD (k*3+1) 0) (zs.getD (k*3+2) 0))else none
def vU{l:List gM}{zs:List Int}{k n:Nat}(h:tu l zs k=none)(b:k<=n):tu l zs n=none:=by
 induction n with
 |zero=>obtain rfl:k=0:=by omega
        exact h
 |succ n a=>
  by_cases e:k=n+1
  .subst e;exact h
  .unfold tu;rw[a (by omega)];rfl
def xP(l:List gM)(i p v:Int):(qy l i p v).length=l.length:=by
 unfold qy;split
 .split<;>simp
 .rfl
def CZ{zs:List Int}{m j:Nat}(h:j<m):(zs.take m).getD j 0=zs.getD j 0:=by
 simp only[ah,cZ,aq h]
def IR.take{N:Nat}{w:World}{k:Nat}{a:Option Addr}{n c:Nat}{zs:List Int}(h:IR N w k a n c zs){i:Nat}(hi:i<=n):IR N w k a i c (zs.take (i*k)):=by
 have g:=Ui k hi;refine⟨by rw[bn,h.1];omega,af hi h.2.1,fun h0=>?_⟩;obtain⟨b,off,e,hb,d⟩:=h.2.2 (by omega);exact⟨b,off,e,hb,fun j f=>by rw[CZ f];exact d j (by omega)⟩
def xQ(zs:List Int)(i:Nat)(s p:Int):oK (zs.take (i*3)) i s p=oK zs i s p:=by
 unfold oK;rw[bJ,cw,cw];constructor
 all_goals
  rintro⟨k,a,h⟩;have b:=aJ.1 a;refine⟨k,a,?_⟩;simp only[CZ (zs:=zs) (m:=i*3) (j:=k*3) (by omega),CZ (zs:=zs) (m:=i*3) (j:=k*3+1) (by omega)]at h⊢;exact h
def So(w:World)(l:List gM)(zs:List Int)(n:Nat)(e:Ending)(w':World):Prop:=
 (tu l zs n=none/\e=.returned (.tuple #[oN,false])/\Below w w w')\/
 (∃l' g m c,tu l zs n=some l'/\e=.returned (.tuple #[Z (J g) m c,.bool (decide (n<=12))])/\jD jE 22 58 w w' (.slice (J g) m c) l'/\Below w w w')
def W7(l:List gM)(zs:List Int)(a b:Option Addr)(m d n c:Nat)(w:World)(h:RR jE 22 (fun b=>b<w.heap.size) w a m d l)(X:m<=1000000)(N:IR w w 3 b n c zs)(hn:n<=1000000)(hp:jY w w):
 Calls prog 105 #[Z a m d,Z b n c] w (So w l zs n):=by
 have H:=O h;have Hz:=O N;have Hp:=O hp;have u:=h.1;have a0:=N.2.1;clear h N hp;go_enter func105,ntmps105
 go_wp2_with((with_reducible refine(MM l a m d _ H.out X).mono ?_);rintro e w1 ⟨g,c1,rfl,v,hb⟩;rw[u]at v;rw[u];have Q:=O v;have Hb:=O hb;clear v hb)
 have T:w.heap.size<=g:=by
  obtain ⟨e,_⟩|⟨g',_,e,q,_⟩:=Q.form
  .cases e
  .cases e;exact q
 go_loopw [14] (fun P wr=>∃k l',k<=n/\P=.int .i64 (k:Int)/\tu l zs k=some l'/\jD jE 22 58 w wr (.slice (J g) m c1) l'/\Below w w wr) (fun P _=>n-(intOf P).toNat)
 case atStart=>exact⟨0,l,by omega,rfl,rfl,Q,Hb⟩
 case round=>
  obtain⟨k,l',hk,rfl,F,v,hb⟩:=hrel;have C:=O F;have D:=O v;have f:=O hb;clear F v hb;by_cases W:k<n
  .have A:=Hz.go f
   obtain⟨b1,off,rfl,hlt,x0,x1,x2⟩:=A.at3 W;have E:=O (A.take (i:=k) (by omega));clear A
   have L:tu l zs (k+1)=if oK zs k (zs.getD (k*3) 0) (zs.getD (k*3+1) 0)=false/\nT l' (zs.getD (k*3) 0) (zs.getD (k*3+1) 0) (zs.getD (k*3+2) 0)=true then some (qy l' (zs.getD (k*3) 0) (zs.getD (k*3+1) 0) (zs.getD (k*3+2) 0))else none:=by
    rw[tu,C];rfl
   have y:=O L;clear L;generalize zs.getD (k*3) 0=s0 at*;generalize zs.getD (k*3+1) 0=p0 at*;generalize zs.getD (k*3+2) 0=v0 at*;have t:=O (show Below wr wr (wr.alloc (.cells #[s0,p0,v0] 64))from(TH _ _).alloc (ag _) _);have r:=O (TL wr (.cells #[s0,p0,v0] 64))
   cases hag:oK zs k s0 p0 with
   |true=>
    have x:=O ((xQ zs k s0 p0).trans hag);have p:=O hag;clear hag
    go_wp2_with((with_reducible refine(tK (zs.take (k*3)) _ k c s0 p0 wr _ (E.out.go t.out) (by omega) (kE r.out).1 (kE r.out).2.1 (by simp)).mono ?_);rintro e w2 ⟨s,o⟩;rw[x]at s;subst s;have j:=O (I t o);clear o)
    go_ret2;refine VR ⟨vU (k:=k+1) ?_ (by omega),rfl,I f j⟩;rw[y,aj (by rw[p];simp)]
   |false=>
    have x:=O ((xQ zs k s0 p0).trans hag);have p:=O hag;clear hag;cases hpu:nT l' s0 p0 v0
    all_goals
     have z:=O hpu;clear hpu
     go_wp2_with(first
      |((with_reducible refine(tK (zs.take (k*3)) _ k c s0 p0 wr _ (E.out.go t.out) (by omega) (kE r.out).1 (kE r.out).2.1 (by simp)).mono ?_);rintro e w2 ⟨s,o⟩;rw[x]at s;subst s;obtain⟨q0,q1,q2⟩:=kE ((o.block wr (by simp)).trans r);have j:=O (I t o);clear o)
      |((with_reducible refine(Pm l' g m c1 w s0 p0 v0 _ (D.out.go iD j.out) X (Hp.out.go (I f.out j.out))).mono ?_);rintro e w3 ⟨s,M,K⟩;rw[z]at s;subst s;have R:=O M;have B:=O ((I f j).grown K (I f j).size (fun q hq=>by cases hq;exact T));clear M K))
    .go_ret2
     refine VR ⟨vU (k:=k+1) ?_ (by omega),rfl,B⟩;rw[y,aj (by rw[z];simp)]
    .go_roundw
     case rel=>exact⟨k+1,qy l' s0 p0 v0,by omega,by go_num,by rw[y,aq ⟨p,z⟩],R,B⟩
     case measure=>simp[intOf];omega
  .obtain rfl:k=n:=by omega
   by_cases S:k<=12
   all_goals
    go_wp2;go_ret2;exact VS ⟨l',g,m,c1,C,by simp[S] <;>omega,D,f⟩
