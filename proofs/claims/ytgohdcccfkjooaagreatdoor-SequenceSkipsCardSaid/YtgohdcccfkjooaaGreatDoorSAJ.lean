import Derived.Test.YtgohdcccfkjooaaGreatDoorSAH
namespace Go.Proofs.YtgohdcccfkjooaaGreatDoor
set_option linter.all false
set_option maxRecDepth 100000
set_option maxHeartbeats 3200000
open Go.Proofs.Tryz Go.RowKit
def Ke(h a v2 i j k l m n o b c d e f g w):(Instr.index 345 (Value.agg #[h,a,v2,i,j,k,l,m,n,o,b,c,d,e,f,g]) (Value.int IntKind.i64 1)).run prog w=Result.ok a w:=by kernel_rfl
def Kf(g h v2 i j k l m n o a b c d e f w):(Instr.index 345 (Value.agg #[g,h,v2,i,j,k,l,m,n,o,a,b,c,d,e,f]) (Value.int IntKind.i64 2)).run prog w=Result.ok v2 w:=by kernel_rfl
def Kh(h i v2 g j k l m n o a b c d e f w):(Instr.index 345 (Value.agg #[h,i,v2,g,j,k,l,m,n,o,a,b,c,d,e,f]) (Value.int IntKind.i64 3)).run prog w=Result.ok g w:=by kernel_rfl
def Ki(h i v2 j g k l m n o a b c d e f w):(Instr.index 345 (Value.agg #[h,i,v2,j,g,k,l,m,n,o,a,b,c,d,e,f]) (Value.int IntKind.i64 4)).run prog w=Result.ok g w:=by kernel_rfl
def Kj(h i v2 j k l m n o g a b c d e f w):(Instr.index 345 (Value.agg #[h,i,v2,j,k,l,m,n,o,g,a,b,c,d,e,f]) (Value.int IntKind.i64 9)).run prog w=Result.ok g w:=by kernel_rfl
def GB(g h v2 i j k l m n o a b c d e f w):(Instr.index 345 (Value.agg #[g,h,v2,i,j,k,l,m,n,o,a,b,c,d,e,f]) (Value.int IntKind.i64 10)).run prog w=Result.ok a w:=by kernel_rfl
def GC(g h v2 i j k l m n o b a c d e f w):(Instr.index 345 (Value.agg #[g,h,v2,i,j,k,l,m,n,o,b,a,c,d,e,f]) (Value.int IntKind.i64 11)).run prog w=Result.ok a w:=by kernel_rfl
def GD(g h v2 i j k l m n o b c a d e f w):(Instr.index 345 (Value.agg #[g,h,v2,i,j,k,l,m,n,o,b,c,a,d,e,f]) (Value.int IntKind.i64 12)).run prog w=Result.ok a w:=by kernel_rfl
def GE(g h v2 i j k l m n o b c d a e f w):(Instr.index 345 (Value.agg #[g,h,v2,i,j,k,l,m,n,o,b,c,d,a,e,f]) (Value.int IntKind.i64 13)).run prog w=Result.ok a w:=by kernel_rfl
def GF(g h v2 i j k l m n o b c d e a f w):(Instr.index 345 (Value.agg #[g,h,v2,i,j,k,l,m,n,o,b,c,d,e,a,f]) (Value.int IntKind.i64 14)).run prog w=Result.ok a w:=by kernel_rfl
def GG(g h v2 i j k l m n o b c d e f a w):(Instr.index 345 (Value.agg #[g,h,v2,i,j,k,l,m,n,o,b,c,d,e,f,a]) (Value.int IntKind.i64 15)).run prog w=Result.ok a w:=by kernel_rfl
def Kk(g)(p:Int)(w)(h1:1<=p)(h2:p<=17):
 Calls prog 262 #[U g,p] w (iZ w (.pointer (some ⟨g,mi p,none⟩))):=by
 obtain rfl|rfl|rfl|rfl|rfl|rfl|rfl|rfl|rfl|rfl|rfl|rfl|rfl|rfl|rfl|rfl|rfl:=oL h1 h2
 .have r:=fun(h i v2 j k l m n o q a b c d e f:Value)(w:World)=>Ke h i v2 j k l m n o q a b c d e f w
  go_enter func262,ntmps262;go_wp2_with fail
  go_quiet (fail)
  go_wp2;go_ret;exact⟨rfl,gV (TH _ _) _⟩
 .have r:=fun(h i v2 j k l m n o q a b c d e f:Value)(w:World)=>Kf h i v2 j k l m n o q a b c d e f w
  go_enter func262,ntmps262;go_wp2_with fail
  go_quiet (fail)
  go_wp2;go_ret;exact⟨rfl,gV (TH _ _) _⟩
 .have r:=fun(h i v2 j k l m n o q a b c d e f:Value)(w:World)=>Kh h i v2 j k l m n o q a b c d e f w
  go_enter func262,ntmps262;go_wp2_with fail
  go_quiet (fail)
  go_wp2;go_ret;exact⟨rfl,gV (TH _ _) _⟩
 .have r:=fun(h i v2 j k l m n o q a b c d e f:Value)(w:World)=>Ki h i v2 j k l m n o q a b c d e f w
  go_enter func262,ntmps262;go_wp2_with fail
  go_quiet (fail)
  go_wp2;go_ret;exact⟨rfl,gV (TH _ _) _⟩
 .go_enter func262,ntmps262
  go_wp2;go_ret;exact⟨rfl,TH _ _⟩
 .go_enter func262,ntmps262
  go_wp2;go_ret;exact⟨rfl,TH _ _⟩
 .go_enter func262,ntmps262
  go_wp2;go_ret;exact⟨rfl,TH _ _⟩
 .go_enter func262,ntmps262
  go_wp2;go_ret;exact⟨rfl,TH _ _⟩
 .have r:=fun(h i v2 j k l m n o q a b c d e f:Value)(w:World)=>Kj h i v2 j k l m n o q a b c d e f w
  go_enter func262,ntmps262;go_wp2_with fail
  go_quiet (fail)
  go_wp2;go_ret;exact⟨rfl,gV (TH _ _) _⟩
 .have r:=fun(h i v2 j k l m n o q a b c d e f:Value)(w:World)=>GB h i v2 j k l m n o q a b c d e f w
  go_enter func262,ntmps262;go_wp2_with fail
  go_quiet (fail)
  go_wp2;go_ret;exact⟨rfl,gV (TH _ _) _⟩
 .have r:=fun(h i v2 j k l m n o q a b c d e f:Value)(w:World)=>GC h i v2 j k l m n o q a b c d e f w
  go_enter func262,ntmps262;go_wp2_with fail
  go_quiet (fail)
  go_wp2;go_ret;exact⟨rfl,gV (TH _ _) _⟩
 .have r:=fun(h i v2 j k l m n o q a b c d e f:Value)(w:World)=>GD h i v2 j k l m n o q a b c d e f w
  go_enter func262,ntmps262;go_wp2_with fail
  go_quiet (fail)
  go_wp2;go_ret;exact⟨rfl,gV (TH _ _) _⟩
 .have r:=fun(h i v2 j k l m n o q a b c d e f:Value)(w:World)=>GE h i v2 j k l m n o q a b c d e f w
  go_enter func262,ntmps262;go_wp2_with fail
  go_quiet (fail)
  go_wp2;go_ret;exact⟨rfl,gV (TH _ _) _⟩
 .have r:=fun(h i v2 j k l m n o q a b c d e f:Value)(w:World)=>GF h i v2 j k l m n o q a b c d e f w
  go_enter func262,ntmps262;go_wp2_with fail
  go_quiet (fail)
  go_wp2;go_ret;exact⟨rfl,gV (TH _ _) _⟩
 .have r:=fun(h i v2 j k l m n o q a b c d e f:Value)(w:World)=>GG h i v2 j k l m n o q a b c d e f w
  go_enter func262,ntmps262;go_wp2_with fail
  go_quiet (fail)
  go_wp2;go_ret;exact⟨rfl,gV (TH _ _) _⟩
 .go_enter func262,ntmps262
  go_wp2;go_ret;exact⟨rfl,TH _ _⟩
 .go_enter func262,ntmps262
  go_wp2;go_ret;exact⟨rfl,TH _ _⟩
def vm{s zs n p}(h:nj s zs n p=0):oA s zs n=true/\tt s p=true:=by
 unfold nj at h;split at h
 .split at h
  .exact⟨by assumption,by assumption⟩
  .cases h
 .cases h
def mw(s:gW)(zs:List Int)(n:Nat)(p v:Int):Int:=if nj s zs n p=0 then(if oA (s.put p v) zs n=true then 0 else 2)else nj s zs n p
def QM(w:World)(s:gW)(zs:List Int)(n:Nat)(p v:Int)(e:Ending)(w':World):Prop:=
 (mw s zs n p v≠0/\e=.returned (.tuple #[.agg zS,.int .i64 (mw s zs n p v)])/\Below w w w')\/
 (mw s zs n p v=0/\ ∃a c,e=.returned (.tuple #[.agg #[.int .i64 (s.put p v).kind,.int .i64 (s.put p v).curv,.int .i64 (s.put p v).conic,.int .i64 (s.put p v).t6,.int .i64 (s.put p v).t7,.int .i64 (s.put p v).a0,.int .i64 (s.put p v).a1,.int .i64 (s.put p v).a2,.int .i64 (s.put p v).a3,.int .i64 (s.put p v).p0,.int .i64 (s.put p v).p1,.int .i64 (s.put p v).order,.int .i64 (s.put p v).t8,.string (s.put p v).i7,.int .i64 (s.put p v).r9,.int .i64 (s.put p v).p8,.int .i64 (s.put p v).dx,.int .i64 (s.put p v).dy,.int .i64 (s.put p v).ax,.int .i64 (s.put p v).ay,.int .i64 (s.put p v).az,Z a n c],oZ])/\IRp (fun b=>w.heap.size<=b/\b<w'.heap.size) w' 3 a n c zs/\(a=none->c=0)/\Below w w w')
def MO(s zs)(p v:Int)(a n c)(w:World)(hz:IR w w 3 a n c zs)(H:n<=1000000)(u:a=none->c=0)(hg:s.i7.size<=9223372036854775807)(hp:jY w w):
 Calls prog 245 #[.agg (⟨s,a,n,c⟩:jt),p,v] w (QM w s zs n p v):=by
 have h1:=Y.new w s a n c;have h2:=TL (w.alloc (.cells (⟨s,a,n,c⟩:jt) 70)) (.cells zS 70);have f:=gY (o:=.cells zS 70) (gY (o:=.cells (⟨s,a,n,c⟩:jt) 70) (TH w w));rw[nB]at h2;have l:=O h1;have r:=O h2;have F:=O hz;have Hc:=O u;have h:=O f;have Hp:=O hp;clear h1 h2 hz u f hp;go_enter func245,ntmps245;go_upto_region 1 with fail;refine gI (fun t=>Y t w s a n c/\t.heap[w.heap.size+1]? =some (.cells zS 70 (0,0))/\Below w w t) ⟨Y.go (B:=w.heap.size+1) l ((TH _ _).alloc (by simp) _) (by omega),r,h⟩ ?_;clear l r h;rintro w1 ⟨h1,h2,f⟩;have q:=h1.lt;have i:=TK h2;have l:=O h1;have r:=O h2;have h:=O f;clear h1 h2 f;by_cases x:nj s zs n p=0
 .obtain⟨q1,q2⟩:=vm x
  obtain⟨r1,r2⟩:=oM q2;have E:=O x;clear x q1 q2
  go_upto_region 5 with(first
   |(refine gO l rfl (.tmp 3) rfl rfl ?_)
   |((with_reducible refine(xO s zs p a n c _ (F.out.go h.out) H hg (Hp.out.go h.out)).mono ?_);rintro e y ⟨k,f⟩;rw[E]at k;subst k;have d:=O f;clear f)
   |((with_reducible refine(Kk w p _ r1 r2).mono ?_);rintro e w3 ⟨k,f⟩;subst k;have z:=O f;clear f;have C:=Y.go (Y.go l d q) z (ab q d.size);have u:=C.getP r1 r2;have fz:=C.free (mi p);have a0:=O C;clear C))
  refine gI (fun t=>Y t w (s.put p v) a n c/\t.heap[w.heap.size+1]? =some (.cells zS 70 (0,0))/\Below w w t) ⟨a0.put r1 r2 v,gF ((z.block _ (ab i d.size)).trans ((d.block _ i).trans r)) ⟨w.heap.size,mi p,none⟩ (by simp) _,(I h (I d z)).setCell (p:=⟨w.heap.size,mi p,none⟩) (aa _) _⟩ ?_;clear u fz a0 z d l r h q i;rintro w4 ⟨h1,h2,f⟩;have q:=h1.lt;have i:=TK h2;obtain⟨k0,k1,k2,k3,k4,k5,k6,k7,k8,k9,K,L,M,N,P,Q,R,S,T,W,X,D⟩:=h1.cells;have l:=O h1;have r:=O h2;have h:=O f;clear h1 h2 f k0 k1 k2 k3 k4 k5 k6 k7 k8 k9 K L M N P Q R S T W X
  have a1:(s.put p v).i7.size<=9223372036854775807:=by
   obtain rfl|rfl|rfl|rfl|rfl|rfl|rfl|rfl|rfl|rfl|rfl|rfl|rfl|rfl|rfl|rfl|rfl:=oL r1 r2<;>exact hg
  cases hk:oA (s.put p v) zs n with
  |false=>
   have g:mw s zs n p v=2:=by unfold mw;rw[aq E.out,hk];rfl
   have Hk:=O hk;have j:=O g;clear hk g
   go_wp2_with(first
    |(refine gO l rfl (.tmp 3) rfl rfl ?_)
    |((with_reducible refine(nC (s.put p v) zs a n c _ (F.out.go h.out) H a1).mono ?_);rintro e y ⟨k,f⟩;rw[Hk]at k;unfold err at k;simp only[de,bC]at k;subst k;have d:=O f;clear f)
    |(refine hE ⟨0,0,0,0,0,0,0,0,0,0,0,0,0,ik,0,0,0,0,0,0,0⟩ none 0 0 ((d.block _ i).trans r) rfl rfl (.tmp 6) (.tmp 23) rfl rfl rfl ?_))
   refine ar (lY (s:=⟨0,0,0,0,0,0,0,0,0,0,0,0,0,ik,0,0,0,0,0,0,0⟩) (a:=none) (n:=0) (c:=0) rfl rfl rfl (Y.stored ((d.block _ i).trans r) rfl _ _ _ _)) rfl ?_;exact VR ⟨by rw[j];decide,by rw[j];rfl,Below.put22 (I h d) (by omega) _ _ _ _⟩
  |true=>
   have g:mw s zs n p v=0:=by unfold mw;rw[aq E.out,hk];rfl
   have Hk:=O hk;have j:=O g;clear hk g
   go_upto_region 7 with(first
    |(refine gO l rfl (.tmp 3) rfl rfl ?_)
    |((with_reducible refine(nC (s.put p v) zs a n c _ (F.out.go h.out) H a1).mono ?_);rintro e y ⟨k,f⟩;rw[Hk]at k;unfold err at k;simp only[bX]at k;subst k;have d:=O f;clear f))
   refine gI (fun t=>Y t w (s.put p v) a n c/\t.heap[w.heap.size+1]? =some (.cells zS 70 (0,0))/\Below w w t) ⟨l.go d q,(d.block _ i).trans r,I h d⟩ ?_;clear D d l r h q i;rintro w5 ⟨h1,h2,f⟩;have q:=h1.lt;have i:=TK h2;obtain⟨k0,k1,k2,k3,k4,k5,k6,k7,k8,k9,K,L,M,N,P,Q,R,S,T,W,X,D⟩:=h1.cells;have l:=O h1;have r:=O h2;have h:=O f;clear h1 h2 f k0 k1 k2 k3 k4 k5 k6 k7 k8 k9 K L M N P Q R S T W X
   go_wp2_with(first
    |((with_reducible refine(zi zs a n c _ (F.out.go h.out) H Hc.out).mono ?_);rintro e y ⟨a',c',rfl,hi,u,A⟩;clear D;have fz:=Y.free (Y.go l A q) 21;have D:=(Y.cells (Y.go l A q)).2.2.2.2.2.2.2.2.2.2.2.2.2.2.2.2.2.2.2.2.2;have Hi:=O hi;have a2:=O u;have d:=O A;clear hi u A)
    |(refine gO (Y.coat (Y.go l d q) a' n c') rfl (.tmp 3) rfl rfl ?_)
    |(refine hE (s.put p v) a' n c' (gF ((d.block _ i).trans r) ⟨w.heap.size,21,none⟩ (by simp) _) rfl rfl (.tmp 6) (.tmp 28) rfl rfl rfl ?_))
   refine ar (lY (s:=s.put p v) (a:=a') (n:=n) (c:=c') rfl rfl rfl (Y.stored (gF ((d.block _ i).trans r) ⟨w.heap.size,21,none⟩ (by simp) _) rfl (s.put p v) a' n c')) rfl ?_;refine VS ⟨j,a',c',rfl,Hi.kept ((gK w [_] 21 y).mono ?_|>.trans ((gK (w+1) (gX (s.put p v) a' n c') 0 _).mono ?_)) ?_,a2,?_⟩
   .intro b f;have:=f.1;omega
   .intro b f;have:=f.1;omega
   .intro b f
    refine⟨by have:=f.1;have:=h.size;omega,?_⟩;have:=im (w+1) (gX (s.put p v) a' n c') 0 (y.setCell ⟨w.heap.size,21,none⟩ (.slice a' n c'))
    show b<((y.setCell ⟨w.heap.size,21,none⟩ (.slice a' n c')).setCells (w+1) 0 (gX (s.put p v) a' n c')).heap.size
    rw[this];simpa using f.2
   .exact Below.put22 ((I h d).setCell (p:=⟨w.heap.size,21,none⟩) (aa _) _) (by omega) _ _ _ _
 .have g:mw s zs n p v=nj s zs n p:=by unfold mw;rw[aj x]
  have a3:(nj s zs n p !=0)=true:=by simpa using x
  generalize hm:nj s zs n p=m at*;have E:=O x;have j:=O g;have Hm:=O hm;clear hm x g
  go_wp2_with(first
   |(refine gO l rfl (.tmp 3) rfl rfl ?_)
   |((with_reducible refine(xO s zs p a n c _ (F.out.go h.out) H hg (Hp.out.go h.out)).mono ?_);rintro e y ⟨k,f⟩;rw[Hm]at k;subst k;have d:=O f;clear f)
   |(refine hE ⟨0,0,0,0,0,0,0,0,0,0,0,0,0,ik,0,0,0,0,0,0,0⟩ none 0 0 ((d.block _ i).trans r) rfl rfl (.tmp 6) (.tmp 14) rfl rfl rfl ?_))
  refine ar (lY (s:=⟨0,0,0,0,0,0,0,0,0,0,0,0,0,ik,0,0,0,0,0,0,0⟩) (a:=none) (n:=0) (c:=0) rfl rfl rfl (Y.stored ((d.block _ i).trans r) rfl _ _ _ _)) rfl ?_;exact VR ⟨by rw[j];exact E,by rw[j];rfl,Below.put22 (I h d) (by omega) _ _ _ _⟩
def Eq(l:List gM)(i:Nat)(p:Int):Bool:=match l[i]? with
 |some x=>vl x.s x.zs (x.zs.length/3) p
 |none=>false
def qx(l:List gM)(i p:Int):Bool:=bt i 0 ((l.length:Int)-1)&&Eq l i.toNat p&& ((p !=9)||decide (i<(l.length:Int)-1))
def Er(l a n c)(i p:Int)(w)(h:RR jE 22 (fun b=>b<w.heap.size) w a n c l)(X:n<=1000000)(L:jY w w):
 Calls prog 244 #[Z a n c,i,p] w (iZ w (.bool (qx l i p))):=by
 have m:=h.1;have H:=O h;have R:=O L;clear h L
 have B:qx l i p=(bt i 0 ((n:Int)-1)&&Eq l i.toNat p&& ((p !=9)||decide (i<(n:Int)-1))):=by unfold qx;rw[m]
 have u:=O B;clear B;go_enter func244,ntmps244
 cases hb0:bt i 0 ((n:Int)-1)with
 |false=>
  have d:=O hb0;clear hb0
  go_wp2_with((with_reducible refine(jc _ _ _ _).mono ?_);rintro e W ⟨f,j⟩;rw[d]at f;subst f)
  go_ret;exact⟨by rw[u,d];rfl,j⟩
 |true=>
  have hi:0<=i/\i<=(n:Int)-1:=by simpa[bt]using hb0
  obtain⟨k,rfl⟩:∃k:Nat,i=(k:Int):=⟨i.toNat,by omega⟩
  have F:k<n:=by omega
  have d:=O hb0;clear hb0 hi;obtain⟨b,off,x,cs,rfl,hlt,N,⟨a2,t,c2,rfl,r,K,E,q⟩,M⟩:=H.at F
  have C:Eq l (k:Int).toNat p=vl x.s x.zs t p:=by unfold Eq;rw[aI,N];simp only;rw[<- mU r]
  have Q:=O C;have T:=O (r.ir (fun _ h=>h));have S:=O M;have y:=O q;clear C N r E M q;cases hv:vl x.s x.zs t p<;>cases h9:(p !=9) <;>cases hlast:decide ((k:Int) <(n:Int)-1)
  all_goals
   have A:=O hv;have P:=O h9;have z:=O hlast;clear hv;simp only[aD,dQ]at hlast
   go_wp2_with(first
    |(refine pW (jb S (gE D) hlt) (by rfl) (.tmp 15) rfl rfl ?_)
    |((with_reducible refine(jc _ _ _ _).mono ?_);rintro e W ⟨f,j⟩;rw[d]at f;subst f;have D:=j;have g:=O j)
    |((with_reducible refine(MN x.s x.zs p _ t c2 _ (T.out.go g.out) K y.out (R.out.go g.out)).mono ?_);rintro e w3 ⟨f,o⟩;rw[A]at f;subst f;have v:=O o;clear o))
   go_ret;exact⟨by rw[u,d,Q,A,P,z];rfl,I g v⟩
def CY{P f}{e:Act}{y b o s a n c d}(h:y.rangeAt b o (gX s a n c))(j:P.underlying 70=some d)(g:d.isRow=true)(hi:(P.info? 70).map (·.size)=some 22)(x)(i:f.op=.load 70 x)(k:e.eval x=.pointer (some ⟨b,o,none⟩)):(execOp e.eval f).run P y=.ok (.value (.agg (⟨s,a,n,c⟩:jt))) y:=by
 unfold execOp;simp only[i,k,Instr.loadAt,Instr.sureAddr,bR,cT,bU,run_loadVar_mid y b o 70 (gX s a n c) d h j g hi];rfl
def pE{ops}{Q:Exit->Act->World->Prop}{N i g fs}{C:Nat->Prop}{d f e}{w:World}(hi:ops.toList[i]? =some f)(j:g.contains i=false)(hw:Region.wanted f (yielded ops e.tmps)=true){b o s a n c}(h:∀y,Below w w y->y.rangeAt b o (gX s a n c))(x)(l:f.op=.load 70 x)(m:e.eval x=.pointer (some ⟨b,o,none⟩))(k:Bx prog ops Q N g fs C d (e.put f.dst (.agg (⟨s,a,n,c⟩:jt))) w):Bx prog ops Q N g fs C ((i,true)::d) e w:=
 gZ (fun y p=>CY (h y p) underlying70 rfl Tryz.infoSurf x l m) k hi j hw
def pX{ops d f e w}{Q:Exit->Act->World->Prop}{b o}(s a n c)(h:w.there b o 22)(g:f.guard=none)(x y)(j:f.op=.store 70 x y)(k:e.eval x=.pointer (some ⟨b,o,none⟩))(l:e.eval y=.agg (⟨s,a,n,c⟩:jt))(i:wpList prog ops Q d (e.put f.dst undef) (w.setCells b o (gX s a n c))):wpList prog ops Q (f::d) e w:=
 wpList_store_mid g 70 x y j b o (⟨s,a,n,c⟩:jt) k l h Tryz.infoSurf (by simp[Value.oneCell']) i
def nT(l:List gM)(i p v:Int):Bool:=qx l i p&& (match l[i.toNat]? with
 |some x=>decide (mw x.s x.zs (x.zs.length/3) p v=0)
 |none=>false)
def qy(l:List gM)(i p v:Int):List gM:=match l[i.toNat]? with
 |some x=>if nT l i p v then l.set i.toNat ⟨x.s.put p v,x.zs⟩else l
 |none=>l
def QN(w:World)(g n c base:Nat)(l:List gM)(i p v:Int)(e:Ending)(w':World):Prop:=
 e=.returned (.bool (nT l i p v))/\jD jE 22 70 base w' (.slice (J g) n c) (qy l i p v)/\w.grownBy w' (some g)
def tM{w w':World}{row}(h:Below w w w'):w.grownBy w' row:=⟨h.os,h.tape,h.output,h.size,fun k a _=>h.block k a⟩
def zo{w w':World}(h:Below w w w')(g o a):w.grownBy (w'.setCells g o a) (some g):=by
 have h0:=ig (aA g) a o (h.mono (aA _));refine⟨h0.os,h0.tape,h0.output,by rw[im];exact h.size,fun k c b=>?_⟩;exact(gK g a o w' k (fun e=>b (by rw[e]))).trans (h.block k c)
def kE{w:World}{g x y z T}(h:w.heap[g]? =some (.cells #[x,y,z] T (0,0))):w.cell? (J g)=some x/\w.cell? ⟨g,1,none⟩=some y/\w.cell? ⟨g,2,none⟩=some z:=by
 refine⟨?_,?_,?_⟩ <;>simp[World.cell?,h]
def Pm(l g n c base)(i p v:Int)(w)(h:jD jE 22 70 base w (.slice (J g) n c) l)(hn:n<=1000000)(hp:jY w w):
 Calls prog 216 #[Z (J g) n c,.agg #[i,p,v]] w (QN w g n c base l i p v):=by
 have a4:=h.rr iD;have a8:=a4.1;have b4:Below w w (w.alloc (.cells #[i,p,v] 72)):=(TH _ _).alloc (aa _) _;have H:=O h;have Hr:=O a4;have Hp:=O hp;have F:=O b4;clear h hp a4 b4;go_enter func216,ntmps216
 cases hh:qx l i p with
 |false=>
  have d:nT l i p v=false:=by unfold nT;rw[hh];rfl
  have a:qy l i p v=l:=by unfold qy;split<;>simp[d]
  have Hh:=O hh;have u:=O d;have j:=O a;clear hh d a
  go_wp2_with((with_reducible refine(Er l _ n c i p _ (Hr.out.go iD F.out) hn (Hp.out.go F.out)).mono ?_);rintro e w2 ⟨he,f⟩;rw[Hh]at he;subst he;have M:=O (I F f);clear f)
  go_ret;exact⟨by rw[u];rfl,by rw[j];exact H.go iD M,tM M⟩
 |true=>
  have d1:0<=i/\i<=(n:Int)-1:=by
   unfold qx at hh;simp only[am]at hh;have:=hh.1.1;rw[a8]at this;simpa[bt]using this
  obtain⟨k,rfl⟩:∃k:Nat,i=(k:Int):=⟨i.toNat,by omega⟩
  have d5:k<n:=by omega
  have Hh:=O hh;clear hh d1
  have X:k<l.length:=by omega
  have hN:w.heap.size<(w.alloc (.cells #[.int .i64 (k:Int),p,v] 72)).heap.size:=by simp
  have L:=TL w (.cells #[.int .i64 (k:Int),p,v] 72);have Q:=O L;clear L
  go_upto_region 3 with((with_reducible refine(Er l _ n c k p _ (Hr.out.go iD F.out) hn (Hp.out.go F.out)).mono ?_);rintro e w2 ⟨he,f⟩;rw[Hh]at he;subst he;have M:=O f;clear f)
  refine gI (fun A=>A.heap[w.heap.size]? =some (.cells #[.int .i64 (k:Int),p,v] 72 (0,0))/\Below w w A) ⟨(M.block _ hN).trans Q,I F M⟩ ?_;clear M F Q hN w2;rintro w2 ⟨L,f⟩;have a0:=TK L;obtain⟨q0,q1,q2⟩:=kE L;have H2:=O (H.go iD f);obtain⟨cs,⟨a2,D,c2,rfl,hz,c1,b6,b7⟩,a1⟩:=H2.at iD X
  have hgl:g<w2.heap.size:=by
   obtain ⟨e,_⟩|⟨g',_,e,_,q,_,_,_⟩:=H2.form
   .cases e
   .cases e;exact q
  have d4:g<w.heap.size:=by
   obtain ⟨e,_⟩|⟨g',_,e,_,q,_,_,_⟩:=H.form
   .cases e
   .cases e;exact q
  have hx:l[k]? =some l[k]:=ae X;generalize l[k]=x at*;have c3:=mU hz;have Hz:=O (hz.ir (fun _ h=>h));have a9:=O b7;have c6:=O b6;have a6:=O a1;have Hb:=O f;have Q:=O L;have Hx:=O hx;have b2:=O c3;clear hz b7 b6 a1 f L hx c3;refine ic 14 [12] [(13,5,.cells zS 70)] [(0,true),(1,true),(2,true),(3,true),(4,true),(5,true),(6,true),(7,true),(8,true),(9,false),(10,true),(11,true),(12,true)] (by kernel_rfl) (by kernel_rfl) ⟨by simp,by simp,by(simp only[ct];exact⟨⟨by omega,_,rfl,rfl,rfl,fun _ _=>rfl⟩,fun _ h=>by cases h⟩)⟩ (fun _ _ _ _ _ h=>h) (fun _ _ o _ _ h=>by cases o<;>exact h) ?_
  iterate 4
   refine gZ (v:=?_) ?_ ?_;rotate_left
   .intro y hy
    have z0:=(hy.cell (p:=J (w.heap.size)) a0).trans q0;go_simp;rfl
   try simp only[V]
  refine pE rfl rfl (by rfl) (fun y hy=>jb a6 (gE (gJ (k:=1) hy)) hgl) _ rfl rfl ?_;try simp only[V]
  iterate 4
   refine gZ (v:=?_) ?_ ?_;rotate_left
   .intro y hy
    have z1:=(hy.cell (p:=⟨w.heap.size,1,none⟩) a0).trans q1;have z2:=(hy.cell (p:=⟨w.heap.size,2,none⟩) a0).trans q2;go_simp;rfl
   try simp only[V]
  refine iK (fun x1 a5 K hK=>?_);go_simp;have r:Below w2 w2 x1:=gJ (k:=1) a5;have S:=I Hb r;refine(MO x.s x.zs p v a2 D c2 _ (Hz.go r) c1 c6 a9 (Hp.go S)).mono ?_;rintro e w3 (⟨h1,rfl,B⟩|⟨h0,a',c',rfl,hi,b5,B⟩)
  .refine hK _ _ B ?_
   clear hK K
   iterate 3
    refine iy (v:=?_) ?_ ?_;rotate_left
    .intro y
     go_simp;rfl
    try simp only[V]
   refine nV (l:=[_,_]) rfl (fun b1 w4 hC C R=>?_);try simp only[V]
   have d:nT l k p v=false:=by unfold nT;rw[aI,Hx];simp only;rw[<- b2];simp[h1]
   have a:qy l k p v=l:=by unfold qy;split<;>simp[d]
   have d6:(mw x.s x.zs D p v==0)=false:=by simpa using h1
   have z:=I S (I B C);have a3:w.heap.size<=b1:=af Hb.size hC.1;have u:=O d;have j:=O a;have N:=O R;have P:=O z;clear d a h1 R z B C S a5 r;generalize mw x.s x.zs D p v=m at*
   go_wp2_with(refine hE ⟨0,0,0,0,0,0,0,0,0,0,0,0,0,ik,0,0,0,0,0,0,0⟩ none 0 0 N rfl rfl (.tmp 5) (.tmp 25) rfl rfl rfl ?_;refine jJ (fun A=>Below w w A) (Below.put22 P a3 ⟨0,0,0,0,0,0,0,0,0,0,0,0,0,ik,0,0,0,0,0,0,0⟩ none 0 0) ?_;clear N;rintro w5 t;have E:=O t;clear t)
   go_ret;exact⟨by rw[u];rfl,by rw[j];exact H.go iD E,tM E⟩
  .refine hK _ _ B ?_
   clear hK K
   iterate 3
    refine iy (v:=?_) ?_ ?_;rotate_left
    .intro y
     go_simp;rfl
    try simp only[V]
   refine nV (l:=[_,_]) rfl (fun b1 w4 hC C R=>?_);try simp only[V]
   have d:nT l k p v=true:=by unfold nT;rw[Hh,aI,Hx];simp only;rw[<- b2];simp[h0]
   have a:qy l k p v=l.set k ⟨x.s.put p v,x.zs⟩:=by unfold qy;rw[aI,Hx];simp[d]
   have z:=I S (I B C);have a3:w.heap.size<=b1:=af Hb.size hC.1;have b9:IRp (fun b=>w.heap.size<=b/\b<w4.heap.size/\b≠g/\b≠b1) w4 3 a' D c' x.zs:=hi.kept (fun b f=>C.block b f.2) (fun b f=>⟨by have:=f.1;have:=r.size;have:=Hb.size;omega,by have:=C.size;omega,by have:=r.size;omega,by have:=hC.2;omega⟩);have u:=O d;have j:=O a;have N:=O R;have P:=O z;have b0:=O b9;have c5:=O b5
   have d0:(x.s.put p v).i7.size<=9223372036854775807:=by
    obtain⟨_,d2⟩:=vm (show nj x.s x.zs D p=0 from by
     apply bg;intro hc
     unfold mw at h0;rw[aj hc]at h0;exact hc h0)
    obtain⟨r1,r2⟩:=oM d2
    obtain rfl|rfl|rfl|rfl|rfl|rfl|rfl|rfl|rfl|rfl|rfl|rfl|rfl|rfl|rfl|rfl|rfl:=oL r1 r2<;>exact a9
   have a7:b1≠w.heap.size:=by have:=hC.1;omega
   have T:=O ((I r (I B C)).block _ a0|>.trans Q)
   have d3:b1≠g:=by omega
   have c9:base<=w.heap.size:=by
    obtain ⟨e,_⟩|⟨g',_,e,q,q2,_⟩:=H.form
    .cases e
    .omega
   clear d a R z B C S a5 r b9 hi b5 q0 q1 q2 Q
   go_wp2_with(first
    |(refine hE (x.s.put p v) a' D c' N rfl rfl (.tmp 5) (.tmp 25) rfl rfl rfl ?_;refine jJ (fun A=>Y A b1 (x.s.put p v) a' D c'/\A.heap[w.heap.size]? =some (.cells #[.int .i64 (k:Int),p,v] 72 (0,0))/\Below w w A/\IRp (fun b=>w.heap.size<=b/\b<A.heap.size/\b≠g) A 3 a' D c' x.zs) ⟨Y.stored N rfl _ _ _ _,vS.other T a7 _ _ _ _,Below.put22 P a3 _ _ _ _,b0.kept ((gK b1 (gX (x.s.put p v) a' D c') 0 w4).mono (fun b f=>f.2.2.2)) (fun b f=>⟨f.1,by have e:=im b1 (gX (x.s.put p v) a' D c') 0 w4;exact ab f.2.1 (Nat.le_of_eq e.symm),f.2.2.1⟩)⟩ ?_;clear N T b0;rintro w5 ⟨c4,W,t,c0⟩;obtain⟨q0,q1,q2⟩:=kE W;have b3:=O c4;have E:=O t;have c8:=O c0;have H5:=O (H.go iD t);clear c4 t c0 W)
    |(refine gO b3 rfl (.tmp 5) rfl rfl ?_)
    |(refine pX (x.s.put p v) a' D c' (H5.there X) rfl _ _ rfl rfl rfl ?_;refine jJ (fun A=>jD jE 22 70 base A (.slice (J g) n c) (l.set k ⟨x.s.put p v,x.zs⟩)/\w.grownBy A (some g)) ⟨H5.set iD X ⟨a',D,c',rfl,c8.kept (gN.refl _ _) (fun b f=>⟨af c9 f.1,f.2⟩),c1,c5,d0⟩,zo E g _ _⟩ ?_;clear b3 H5;rintro w6 ⟨h6,b8⟩;have H6:=O h6;have c7:=O b8;clear h6 b8))
   go_ret;exact⟨by rw[u];rfl,by rw[j];exact H6,c7⟩
def tu(l:List gM)(zs:List Int):Nat->Option (List gM)
 |0=>some l
 |k+1=>(tu l zs k).bind fun l'=>if oK zs k (zs.getD (k*3) 0) (zs.getD (k*3+1) 0)=false/\nT l' (zs.getD (k*3) 0) (zs.getD (k*3+1) 0) (zs.getD (k*3+2) 0)=true then some (qy l' (zs.getD (k*3) 0) (zs.getD (k*3+1) 0) (zs.getD (k*3+2) 0))else none
def vU{l zs k n}(h:tu l zs k=none)(b:k<=n):tu l zs n=none:=by
 induction n with
 |zero=>obtain rfl:k=0:=by omega
        exact h
 |succ n a=>
  by_cases e:k=n+1
  .subst e;exact h
  .unfold tu;rw[a (by omega)];rfl
def xP(l i p v):(qy l i p v).length=l.length:=by
 unfold qy;split
 .split<;>simp
 .rfl
def CZ{zs:List Int}{m j}(h:j<m):(zs.take m).getD j 0=zs.getD j 0:=by
 simp only[ah,cZ,aq h]
def IR.take{N w k a n c zs}(h:IR N w k a n c zs){i}(hi:i<=n):IR N w k a i c (zs.take (i*k)):=by
 have l:=Ui k hi;refine⟨by rw[bn,h.1];omega,af hi h.2.1,fun h0=>?_⟩;obtain⟨b,off,e,d,f⟩:=h.2.2 (by omega);exact⟨b,off,e,d,fun j g=>by rw[CZ g];exact f j (by omega)⟩
def xQ(zs i s p):oK (zs.take (i*3)) i s p=oK zs i s p:=by
 unfold oK;rw[bJ,cw,cw];constructor
 all_goals
  rintro⟨k,a,h⟩;have b:=aJ.1 a;refine⟨k,a,?_⟩;simp only[CZ (zs:=zs) (m:=i*3) (j:=k*3) (by omega),CZ (zs:=zs) (m:=i*3) (j:=k*3+1) (by omega)]at h⊢;exact h
def So(w:World)(l:List gM)(zs:List Int)(n:Nat)(e:Ending)(w':World):Prop:=
 (tu l zs n=none/\e=.returned (.tuple #[oN,false])/\Below w w w')\/
 (∃l' g m c,tu l zs n=some l'/\e=.returned (.tuple #[Z (J g) m c,.bool (decide (n<=12))])/\jD jE 22 70 w w' (.slice (J g) m c) l'/\Below w w w')
def Es(l zs a b m d n c w)(h:RR jE 22 (fun b=>b<w.heap.size) w a m d l)(hm:m<=1000000)(R:IR w w 3 b n c zs)(hn:n<=1000000)(hp:jY w w):
 Calls prog 167 #[Z a m d,Z b n c] w (So w l zs n):=by
 have H:=O h;have Hz:=O R;have Hp:=O hp;have u:=h.1;have a2:=R.2.1;clear h R hp;go_enter func167,ntmps167
 go_wp2_with((with_reducible refine(MM l a m d _ H.out hm).mono ?_);rintro e w1 ⟨g,c1,rfl,v,A⟩;rw[u]at v;rw[u];have T:=O v;have Hb:=O A;clear v A)
 have a0:w.heap.size<=g:=by
  obtain ⟨e,_⟩|⟨g',_,e,q,_⟩:=T.form
  .cases e
  .cases e;exact q
 go_loopw [14] (fun S wr=>∃k l',k<=n/\S=.int .i64 (k:Int)/\tu l zs k=some l'/\jD jE 22 70 w wr (.slice (J g) m c1) l'/\Below w w wr) (fun S _=>n-(intOf S).toNat)
 case atStart=>exact⟨0,l,by omega,rfl,rfl,T,Hb⟩
 case round=>
  obtain⟨k,l',hk,rfl,L,v,A⟩:=hrel;have D:=O L;have E:=O v;have f:=O A;clear L v A;by_cases a1:k<n
  .have B:=Hz.go f
   obtain⟨b1,off,rfl,hlt,x0,x1,x2⟩:=B.at3 a1;have F:=O (B.take (i:=k) (by omega));clear B
   have P:tu l zs (k+1)=if oK zs k (zs.getD (k*3) 0) (zs.getD (k*3+1) 0)=false/\nT l' (zs.getD (k*3) 0) (zs.getD (k*3+1) 0) (zs.getD (k*3+2) 0)=true then some (qy l' (zs.getD (k*3) 0) (zs.getD (k*3+1) 0) (zs.getD (k*3+2) 0))else none:=by
    rw[tu,D];rfl
   have y:=O P;clear P;generalize zs.getD (k*3) 0=s0 at*;generalize zs.getD (k*3+1) 0=p0 at*;generalize zs.getD (k*3+2) 0=v0 at*;have K:Below wr wr (wr.alloc (.cells #[s0,p0,v0] 72)):=(TH _ _).alloc (aa _) _;have N:=TL wr (.cells #[s0,p0,v0] 72);have t:=O K;have r:=O N;clear K N
   cases hag:oK zs k s0 p0 with
   |true=>
    have x:=O ((xQ zs k s0 p0).trans hag);have p:=O hag;clear hag
    go_wp2_with((with_reducible refine(tK (zs.take (k*3)) _ k c s0 p0 wr _ (F.out.go t.out) (by omega) (kE r.out).1 (kE r.out).2.1 (by simp)).mono ?_);rintro e w2 ⟨s,o⟩;rw[x]at s;subst s;have j:=O (I t o);clear o)
    go_ret2;refine VR ⟨vU (k:=k+1) ?_ (by omega),rfl,I f j⟩;rw[y,aj (by rw[p];simp)]
   |false=>
    have x:=O ((xQ zs k s0 p0).trans hag);have p:=O hag;clear hag;cases hpu:nT l' s0 p0 v0
    all_goals
     have z:=O hpu;clear hpu
     go_wp2_with(first
      |((with_reducible refine(tK (zs.take (k*3)) _ k c s0 p0 wr _ (F.out.go t.out) (by omega) (kE r.out).1 (kE r.out).2.1 (by simp)).mono ?_);rintro e w2 ⟨s,o⟩;rw[x]at s;subst s;obtain⟨q0,q1,q2⟩:=kE ((o.block wr (by simp)).trans r);have j:=O (I t o);clear o)
      |((with_reducible refine(Pm l' g m c1 w s0 p0 v0 _ (E.out.go iD j.out) hm (Hp.out.go (I f.out j.out))).mono ?_);rintro e w3 ⟨s,Q,M⟩;rw[z]at s;subst s;have W:=O Q;have C:=O ((I f j).grown M (I f j).size (fun q hq=>by cases hq;exact a0));clear Q M))
    .go_ret2
     refine VR ⟨vU (k:=k+1) ?_ (by omega),rfl,C⟩;rw[y,aj (by rw[z];simp)]
    .go_roundw
     case rel=>exact⟨k+1,qy l' s0 p0 v0,by omega,by go_num,by rw[y,aq ⟨p,z⟩],W,C⟩
     case measure=>simp[intOf];omega
  .obtain rfl:k=n:=by omega
   by_cases X:k<=12
   all_goals
    go_wp2;go_ret2;exact VS ⟨l',g,m,c1,D,by simp[X] <;>omega,E,f⟩
def Kl{s zs n}(b:zs.length=n*3)(h:oA s zs n=true)(a:s.kind≠1):s.order=0:=by
 have h1:uX s zs n=true:=by unfold oA at h;simp only[am]at h;exact h.1
 have h2:rK s zs=true:=by rw[Eu]at h1;simp only[am]at h1;exact h1.1
 rw[<- Jo s zs n b]at h2;unfold rM qw at h2;rw[aj a]at h2
 repeat' split at h2
 all_goals simp at h2
 all_goals omega
def vp(s zs)(p:Int)(a n c)(w:World)(A:IR w w 3 a n c zs)(y:n<=1000000)(x:s.i7.size<=9223372036854775807):
 Calls prog 227 #[.agg (⟨s,a,n,c⟩:jt),p] w (iZ w (.bool (vl s zs n p))):=by
 have h1:=Y.new w s a n c;have l:=(TH w w).alloc (aa _) (.cells (⟨s,a,n,c⟩:jt) 70);have o:=O h1;have q:=O (A.go l);have k:=O l;clear h1 A l;go_enter func227,ntmps227
 cases ho:oA s zs n with
 |false=>
  have j:=O ho;clear ho
  go_wp2_with(first
   |(refine gO o rfl (.tmp 2) rfl rfl ?_)
   |((with_reducible refine(lN s zs a n c _ q.out y x).mono ?_);rintro e C ⟨m,f⟩;rw[j]at m;subst m))
  go_ret;exact⟨by unfold vl;rw[j];rfl,I k f⟩
 |true=>
  obtain⟨E,F⟩:=vT ho;have i:=Kl q.1 ho;have h:=O i;clear i;have j:=O ho;clear ho
  go_upto_region 3 with(first
   |(refine gO o rfl (.tmp 2) rfl rfl ?_)
   |((with_reducible refine(lN s zs a n c _ q.out y x).mono ?_);rintro e C ⟨m,f⟩;rw[j]at m;subst m))
  refine gI (fun D=>Y D w s a n c/\Below w w D) ⟨Y.go o f (by simp),I k f⟩ ?_;clear f o q k C;rintro H ⟨h1,f⟩;obtain⟨k0,_,_,_,_,_,_,_,_,_,_,B,_⟩:=h1.cells;have t:=O f;clear f h1
  have z:vl s zs n p=tt s p:=by unfold vl;rw[j];rfl
  have v:=O z;clear z
  have d:s.kind=1\/s.kind=2\/s.kind=3\/s.kind=4:=by omega
  clear E F
  obtain d|d|d|d:=d
  all_goals
   have g:=h.out;rw[d]at g;have r:=O g;have u:=O d;clear g;rw[d]at k0;clear d;go_wp2
   all_goals
    go_ret;refine⟨ai (fun b=>Ending.returned (Value.bool b)) ?_,t⟩;rw[v];unfold tt nZ;rw[u];have g:=r.out;clear v u t j k0 B h r;go_light;simp at g;rw[bJ]
    (try simp)
    (try(split<;>(try simp_all)))
    all_goals(try omega)

def Ex(l a n c)(i p:Int)(w)(h:RR jE 22 (fun b=>b<w.heap.size) w a n c l)(T:n<=1000000):
 Calls prog 186 #[Z a n c,i,p] w (iZ w (.bool (qx l i p))):=by
 have j:=h.1;have H:=O h;clear h
 have B:qx l i p=(bt i 0 ((n:Int)-1)&&Eq l i.toNat p&& ((p !=9)||decide (i<(n:Int)-1))):=by unfold qx;rw[j]
 have u:=O B;clear B;go_enter func186,ntmps186
 cases hb0:bt i 0 ((n:Int)-1)with
 |false=>
  have d:=O hb0;clear hb0
  go_wp2_with((with_reducible refine(ix _ _ _ _).mono ?_);rintro e S ⟨f,g⟩;rw[d]at f;subst f)
  go_ret;exact⟨by rw[u,d];rfl,g⟩
 |true=>
  have hi:0<=i/\i<=(n:Int)-1:=by simpa[bt]using hb0
  obtain⟨k,rfl⟩:∃k:Nat,i=(k:Int):=⟨i.toNat,by omega⟩
  have F:k<n:=by omega
  have d:=O hb0;clear hb0 hi;obtain⟨b,off,x,cs,rfl,hlt,M,⟨a2,t,c2,rfl,r,K,E,q⟩,L⟩:=H.at F
  have C:Eq l (k:Int).toNat p=vl x.s x.zs t p:=by unfold Eq;rw[aI,M];simp only;rw[<- mU r]
  have P:=O C;have R:=O (r.ir (fun _ h=>h));have Q:=O L;have y:=O q;clear C M r E L q;cases hv:vl x.s x.zs t p<;>cases h9:(p !=9) <;>cases hlast:decide ((k:Int) <(n:Int)-1)
  all_goals
   have A:=O hv;have N:=O h9;have z:=O hlast;clear hv;simp only[aD,dQ]at hlast
   go_wp2_with(first
    |(refine pW (jb Q (gE D) hlt) (by rfl) (.tmp 15) rfl rfl ?_)
    |((with_reducible refine(ix _ _ _ _).mono ?_);rintro e S ⟨f,g⟩;rw[d]at f;subst f;have D:=g;have m:=O g)
    |((with_reducible refine(vp x.s x.zs p _ t c2 _ (R.out.go m.out) K y.out).mono ?_);rintro e W ⟨f,o⟩;rw[A]at f;subst f;have v:=O o;clear o))
   go_ret;exact⟨by rw[u,d,P,A,N,z];rfl,I m v⟩
