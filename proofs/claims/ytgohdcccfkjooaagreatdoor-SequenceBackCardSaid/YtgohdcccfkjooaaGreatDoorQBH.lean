import Derived.Test.YtgohdcccfkjooaaGreatDoorQBG
namespace Go.Proofs.YtgohdcccfkjooaaGreatDoor
set_option linter.all false
set_option maxRecDepth 100000
set_option maxHeartbeats 1600000
open Go.Proofs.Tryz Go.RowKit
def iq{T e B b xs w w'}(h:Lib.IsBuilder T e B b xs w)(a:Below w w w'):Lib.IsBuilder T e B b xs w':=by
 have one:∀{p:Value},Lib.BuilderAt T e B b p xs w->Lib.BuilderAt T e B b p xs w':=by
  rintro p ⟨h1,v,h2,h3,c⟩;exact⟨h1,v,(a.block b (TK h2)).trans h2,kD h3 a,c⟩
 exact h.imp one one
def LI(ws g off c w)(h:∀i x,ws[i]? =some x->w.cell? ⟨g,off+i,none⟩=some (.string (bs x)))(k:g<w.heap.size)(l:ws.length<=c)(n:ws.length<=1000000)(m:(nN ws).length<=1000000):
 Calls prog 31 #[Z (some ⟨g,off,none⟩) ws.length c,.string {data:=#[32]}] w (iZ w (.string (bs (nN ws)))):=by
 have f:(ws.map bs).map (fun b=>b.data.toList)=ws:=by rw[dD];exact fY (fun x=>rfl) ws
 have a:∀(j:Nat) x,(ws.map bs)[j]? =some x->w.cell? ⟨g,off+j,none⟩=some (.string x):=fun j x d=>by
  rw[aR]at d
  cases hw:ws[j]? with
  |none=>rw[hw]at d;cases d
  |some y=>rw[hw]at d;cases d;exact h j y hw
 have key:=Tryz.strings_Join g off c (ws.map bs) {data:=#[32]} w a k (by rw[aU];omega) (by rw[aU];omega) (by rw[f,zZ];omega);rw[aU,f,zZ]at key
 exact key.mono fun e w' h=>h
def Cv(ws g off c B b l w)(h:∀i x,ws[i]? =some x->w.cell? ⟨g,off+i,none⟩=some (.string (bs x)))(H:g<w.heap.size)(F:ws.length<=c)(K:ws.length<=1000000)(r:l.length+(iF ws).length<=1000000)(p:Lib.IsBuilder 108 5 B b (Lib.byteCells l) w)(E:B<=w.heap.size):
 Calls prog 41 #[U b,Z (some ⟨g,off,none⟩) ws.length c] w fun e w'=>e=.returned (.tuple #[])/\Lib.IsBuilder 108 5 B b (Lib.byteCells (l++iF ws)) w'/\Below B w w'/\kY b w w':=by
 have m:(iF ws).length=(nN ws).length+1:=by unfold iF;simp
 have q:Below w w w.drew:=⟨rfl,rfl,rfl,aa _,fun _ _=>rfl⟩
 go_enter func41,ntmps41
 refine gS 6 [(0,true),(1,true),(2,true),(3,true),(4,false),(5,true)] (by kernel_rfl) (by kernel_rfl) ?_
 iterate 4
  refine gU (v:=?_) rfl (fun _ _ _ h=>h) (by rfl) ?_ ?_;rotate_left
  .intro x n
   go_simp
   with_reducible rfl
  try simp only[V]
 refine gP rfl rfl (fun D k=>?_);go_simp;refine(LI ws g off c w.drew (fun i x n=>h i x n) H F K (by omega)).mono ?_;rintro e t ⟨rfl,d⟩;refine k _ _ d ?_;clear k D
 try simp only[V]
 have a:Below w w t:=q.trans d;have u:bs (nN ws)++({data:=#[10]}:ByteArray)=bs (iF ws):=oQ _ [10]
 have N:(nN ws).length<=1000000:=by omega
 have j:=iq p a;have M:=a.size;have C:=O r;have L:=O m;clear r m h p;generalize hJ:nN ws=Jq0 at*;generalize hS:iF ws=S at*;clear hJ hS
 have s:¬9223372036854775807<Jq0.length+1:=by omega
 refine gU (v:=?_) rfl (fun _ _ _ h=>h) (by rfl) ?_ ?_;rotate_left
 .intro x n
  go_simp
  try rw[aj s]
  with_reducible rfl
 try simp only[V]
 refine iu rfl ?_
 go_wp2_with fail
 refine(Iz B b l S t j C (by omega)).mono ?_;rintro e P ⟨rfl,h3,o,h5⟩;have y:=O h3;have z:=O o;have A:=O h5;have f:=O a;clear h3 o h5 a d j
 go_wp2_with fail
 go_end0;exact⟨rfl,y,(f.mono E).trans z,(kY.below f).trans A⟩
def FJ(B b l w)(h:Lib.IsBuilder 108 5 B b (Lib.byteCells l) w)(h0:l≠[]):
 Calls prog 30 #[U b] w fun e w'=>e=.returned (.string (bs l))/\Below B w w':=by
 obtain⟨p,E,v,i,c,D⟩:∃p,Lib.BuilderAt 108 5 B b p (Lib.byteCells l) w:=by
  obtain h|h:=h
  .exact⟨_,h⟩
  .exact⟨_,h⟩
 have n:l.length≠0:=by simpa using h0
 rw[Lib.byteCells_length]at c
 obtain⟨g,cap,a,rfl,f,o,C,k,A,d⟩:∃g cap a,v=.slice (J g) l.length cap/\B<=g/\w.heap[g]? =some (.cells a 5 (0,0))/\l.length<=cap/\cap<=maxLen/\a.size=cap*1/\a.toList.take (l.length*1)=Lib.byteCells l:=by
  obtain ⟨_,u⟩|⟨g,cap,a,s,r⟩:=c.2
  .exact absurd u n
  .exact⟨g,cap,a,s,r⟩
 have c1:w.drew.cell? ⟨b,1,none⟩=some (.slice (J g) l.length cap):=by
  have q:w.drew.heap[b]? =some (.cells #[p,Z (J g) l.length cap] 108 (0,0)):=i;exact gA q 1
 have y:(Builtin.unsafeSliceData_ #[24] 146 #[Z (J g) l.length cap]).run prog w.drew=.ok (.pointer (J g)) w.drew:=
  Lib.run_unsafeSliceData_row _ _ _ _ _ _ (by omega)
 have z:(Builtin.unsafeString_ #[146,3] 9 #[U g,l.length]).run prog w.drew=.ok (.string (bs l)) (w.drew.freeze (J g) l.length):=by
  refine Lib.run_unsafeString_row w.drew 146 3 9 5 underlying146 (by kernel_rfl) g a.size (by have m:w.drew.heap[g]? =some (.cells a 5 (0,0)):=o;simp[World.shape?,m]) l h0 (by omega) (by unfold maxLen at k;omega) ?_;intro j x t;exact c.cells (g:=g) rfl j (.int .u8 x.toNat) (by simp[Lib.byteCells,t])
 have mixed:prog.follows .mixedOrders=true:=by kernel_rfl
 go_enter func30,ntmps30
 go_wp2;go_region_o
 all_goals(go_wp2;go_ret;exact⟨rfl,Lib.below_freeze (Below.drew (TH B w)) (p:=J g) f _⟩)
structure xq {α:Type} (R:pB α) (k:Nat) (T:TypeId) (B:Nat) (D:Nat->Prop) (W:World) (p:iJ) (l:List α) (css:List (List Value)):Prop where
 row:W.ownsRow B T k p.v p.n css.flatten
 len:css.length=l.length
 n:p.n=l.length
 k:∀cs∈css,cs.length=k
 rep:∀(i:Nat)(x:α)(cs:List Value),l[i]? =some x->css[i]? =some cs->R (fun b=>B<=b/\b<W.heap.size/\p.v.ownBlock≠some b) W x cs
 inD:∀b,p.v.ownBlock=some b->D b
def xq.nil{α}(R:pB α)(k T B)(D:Nat->Prop)(W):xq R k T B D W ij [] []:=
 ⟨World.ownsRow_nil _ _ _ _,rfl,rfl,by simp,fun i x cs h=>by simp at h,fun b e=>by cases e⟩
def ue{W:World}{B l k k' n n' b T d v f xs h}(h1:W.ownsRow B T k v n xs)(h2:W.ownsRow l d k' f n' h)(m:T≠d)(e:v.ownBlock=some b):f.ownBlock≠some b:=by
 intro a
 obtain ⟨rfl,_⟩|⟨g,cap,p,rfl,_,o,_⟩:=h1.2
 .cases e
 .obtain ⟨rfl,_⟩|⟨q,i,j,rfl,_,c,_⟩:=h2.2
  .cases a
  .cases e;cases a
   rw[o]at c;cases c;exact m rfl
def NZ{W B k n b T v xs ks}(h1:W.ownsRow B T k v n xs)(h2:oC W b ks):v.ownBlock≠some b:=by
 intro c;obtain⟨f,a,h3,_⟩:=h2
 obtain ⟨rfl,_⟩|⟨g,cap,e,rfl,_,d,_⟩:=h1.2
 .cases c
 .cases c
  rw[d]at h3;cases h3
def my.ne{B}{D:Nat->Prop}{W c p m l seen l0 y css q a cap b}(h:my B D W c p m l seen l0 y css q a cap b):q.v.ownBlock≠some a/\b≠a/\q.v.ownBlock≠some b:=
 ⟨ue h.row h.coat.row (by decide) rfl,fun e=>NZ h.row h.map (by rw[e];rfl),NZ h.coat.row h.map⟩
def my.flat{B}{D:Nat->Prop}{W c p m l seen l0 y css q a cap b}(h:my B D W c p m l seen l0 y css q a cap b):css.flatten.length=l0.length*22:=by
 rw[lK css h.k,h.ecss]
def Au{W:World}{B k n b cap T a cs}(h:W.ownsRow B T k (.slice (J b) n cap) n (a++cs))(j)(q:j<cs.length)(u):(W.setCell ⟨b,a.length+j,none⟩ u).ownsRow B T k (.slice (J b) n cap) n (a++cs.set j u):=by
 obtain⟨h1,h2⟩:=h;refine⟨by rw[<- h1];simp,Or.inr ?_⟩
 obtain ⟨e,_⟩|⟨g,c,p,e,d,f,i,l,m,o⟩:=h2
 .cases e
 .cases e
  refine⟨b,cap,_,rfl,d,gG f (a.length+j) u,i,l,by simpa using m,?_⟩;rw[Array.toList_setIfInBounds,List.take_set,o,fO,aj (by omega),dR]
def my.store{B}{D:Nat->Prop}{W c p m l seen l0 y css q o cap r}(h:my B D W c p m l seen l0 y css q o cap r){off u s2}(g:off<22)(j:(gX y.s q.a q.n q.c).set off u=gX s2 q.a q.n q.c)(hgl:s2.glass.size<=1000000):my B D (W.setCell ⟨o,l0.length*22+off,none⟩ u) c p m (l0++[⟨s2,y.zs⟩]) seen l0 ⟨s2,y.zs⟩ css q o cap r:=by
 obtain⟨t,v,w⟩:=h.ne;have f:=Au h.row off g u;rw[h.flat,j]at f
 exact⟨rfl,h.ep,h.ecss,h.k,f,h.coat.keep (fun b d=>iS (fun e=>t (by rw[d,e]))) h.coat.inD,h.qn,fun i x cs h1 h2=>iD.kept (h.rep i x cs h1 h2) (fun b d=>iS (fun e=>d.2.2 (by rw[e];exact h.dbb))) (fun b d=>⟨d.1,by simpa using d.2.1,d.2.2⟩),
  h.dbb,hgl,h.em,h.map.block (iS v),h.dbm,h.bmB⟩
def my.film{B}{D:Nat->Prop}{W W' c p m l seen l0 y css q r cap t}(h:my B D W c p m l seen l0 y css q r cap t){u g2 a}(o:W'.ownsRow B 67 3 (.slice (J g2) (q.n+1) a) (q.n+1) (y.zs.map (Value.int .i64)++u.map (Value.int .i64)))(j:nI W W' q.v g2):
 my B (fun b=>D b\/b=g2) (W'.setCell ⟨r,l0.length*22+21,none⟩ (.slice (J g2) (q.n+1) a)) (c+1) p m (l0++[⟨y.s,y.zs++u⟩]) seen l0 ⟨y.s,y.zs++u⟩ css ⟨some ⟨g2,0,none⟩,q.n+1,a⟩ r cap t:=by
 obtain⟨C,E,F⟩:=h.ne;have w:=h.bbB;have f:=me h.row (W':=W') (fun b d=>by cases d;exact j.kept r w.2 C)
 have z:g2≠r:=by
  have A:=ue f o (by decide) (b:=r) rfl
  exact fun e=>A (by rw[e];rfl)
 have g:=Au f 21 (by show 21<22;omega) (.slice (J g2) (q.n+1) a);rw[h.flat]at g
 refine⟨rfl,h.ep,h.ecss,h.k,g,⟨rE (by rw[aT];exact o) (fun e=>by cases e;exact z rfl) _ _,(fun b e=>by cases e;exact Or.inr rfl),fun e=>by have:q.n+1=0:=e;omega⟩,by have:=h.qn;show q.n+1<=c+1;omega,fun i x cs h1 h2=>iD.kept (h.rep i x cs h1 h2) (fun b d=>?_) (fun b d=>⟨d.1,?_,?_⟩),
  Or.inl h.dbb,h.glass,h.em,h.map.block ((iS E).trans (j.kept t h.map.lt F)),Or.inl h.dbm,h.bmB⟩
 .exact(iS (fun e=>d.2.2 (by rw[e];exact h.dbb))).trans (j.kept b d.2.1 (fun e=>d.2.2 (h.coat.inD b e)))
 .simpa using ab d.2.1 j.size
 .rintro(e|e)
  .exact d.2.2 e
  .obtain e2|e2:=j.hat
   .exact d.2.2 (h.coat.inD b (by rw[e];exact e2))
   .have:=d.2.1;omega
def nG.own{at_ B}{D:Nat->Prop}{W c p m l seen}(h:nG at_ B D W c p m l seen)(hat:at_<=7)(t:c<=1000000):∃css,xq jE 22 70 B D W p l css:=by
 obtain ⟨_,rfl,rfl⟩|⟨e,l0,y,css,q,r,cap,v,h⟩|⟨h,_⟩:=h.2
 .exact⟨[],xq.nil _ _ _ _ _ _⟩
 .obtain⟨u,w,z⟩:=h.ne
  have o:=h.ecss;refine⟨css++[gX y.s q.a q.n q.c],?_⟩;rw[h.ep,h.el];refine⟨by show World.ownsRow _ _ _ _ (.slice (J r) (l0.length+1) cap) _ _;simpa using h.row,by simp[o],by simp,fun cs d=>?_,fun i x cs g d=>?_,fun b e=>by cases e;exact h.dbb⟩
  .obtain d|d:=bj.1 d
   .exact h.k cs d
   .simp only[aK]at d;subst d;rfl
  .by_cases hi:i<l0.length
   .rw[aF hi]at g
    rw[aF (by omega)]at d;exact iD.kept (h.rep i x cs g d) (gN.refl _ _) (fun b f=>⟨f.1,f.2.1,fun e=>by cases e;exact f.2.2 h.dbb⟩)
   .have j:i=l0.length:=by
     have:=(TG.1 g).1;simp at this;omega
    subst j;simp only[bT,bA]at g;rw[<- o]at d;simp only[bT,bA]at d;subst g;subst d;exact h.last (fun b f=>⟨(gT h.coat.row f).1,(gT h.coat.row f).2,fun e=>by cases e;exact u f⟩) t
 .omega
def qL.ne{B}{D:Nat->Prop}{W c p l l0 y css q a cap}(h:qL B D W c p l l0 y css q a cap):q.v.ownBlock≠some a:=ue h.row h.coat.row (by decide) rfl
def nH.own{at_ B}{D:Nat->Prop}{W c p l}(h:nH at_ B D W c p l)(hat:at_<=8)(r:c<=1000000):∃css,xq oB 2 75 B D W p l css:=by
 obtain ⟨_,rfl,rfl⟩|⟨e,l0,y,css,q,o,cap,h⟩|⟨h,_⟩:=h.2
 .exact⟨[],xq.nil _ _ _ _ _ _⟩
 .have s:=h.ne
  have m:=h.ecss;refine⟨css++[[.string y.nm,.slice q.a q.n q.c]],?_⟩;rw[h.ep,h.el];refine⟨by show World.ownsRow _ _ _ _ (.slice (J o) (l0.length+1) cap) _ _;simpa using h.row,by simp[m],by simp,fun cs d=>?_,fun i x cs g d=>?_,fun b e=>by cases e;exact h.dbb⟩
  .obtain d|d:=bj.1 d
   .exact h.k cs d
   .simp only[aK]at d;subst d;rfl
  .by_cases hi:i<l0.length
   .rw[aF hi]at g
    rw[aF (by omega)]at d;exact ky.kept (h.rep i x cs g d) (gN.refl _ _) (fun b f=>⟨f.1,f.2.1,fun e=>by cases e;exact f.2.2 h.dbb⟩)
   .have j:i=l0.length:=by
     have:=(TG.1 g).1;simp at this;omega
    subst j;simp only[bT,bA]at g;rw[<- m]at d;simp only[bT,bA]at d;subst g;subst d;exact h.last (fun b f=>⟨(gT h.coat.row f).1,(gT h.coat.row f).2,fun e=>by cases e;exact s f⟩) r
 .omega
def qL.flat{B}{D:Nat->Prop}{W c p l l0 y css q a cap}(h:qL B D W c p l l0 y css q a cap):css.flatten.length=l0.length*2:=by
 rw[lK css h.k,h.ecss]
def qL.film{B}{D:Nat->Prop}{W W' c p l l0 y css q o cap}(h:qL B D W c p l l0 y css q o cap){r g2 a}(m:W'.ownsRow B 72 3 (.slice (J g2) (q.n+1) a) (q.n+1) (y.zs.map (Value.int .i64)++r.map (Value.int .i64)))(j:nI W W' q.v g2):
 qL B (fun b=>D b\/b=g2) (W'.setCell ⟨o,l0.length*2+1,none⟩ (.slice (J g2) (q.n+1) a)) (c+1) p (l0++[⟨y.nm,y.zs++r⟩]) l0 ⟨y.nm,y.zs++r⟩ css ⟨some ⟨g2,0,none⟩,q.n+1,a⟩ o cap:=by
 have w:=h.ne;have s:=h.bbB;have f:=me h.row (W':=W') (fun b d=>by cases d;exact j.kept o s.2 w)
 have t:g2≠o:=by
  have u:=ue f m (by decide) (b:=o) rfl
  exact fun e=>u (by rw[e];rfl)
 have g:=Au f 1 (by show 1<2;omega) (.slice (J g2) (q.n+1) a);rw[h.flat]at g;refine⟨rfl,h.ep,h.ecss,h.k,g,⟨rE (by rw[aT];exact m) (fun e=>by cases e;exact t rfl) _ _,(fun b e=>by cases e;exact Or.inr rfl),fun e=>by have:q.n+1=0:=e;omega⟩,by have:=h.qn;show q.n+1<=c+1;omega,fun i x cs h1 h2=>ky.kept (h.rep i x cs h1 h2) (fun b d=>?_) (fun b d=>⟨d.1,?_,?_⟩),Or.inl h.dbb,h.nm⟩
 .exact(iS (fun e=>d.2.2 (by rw[e];exact h.dbb))).trans (j.kept b d.2.1 (fun e=>d.2.2 (h.coat.inD b e)))
 .simpa using ab d.2.1 j.size
 .rintro(e|e)
  .exact d.2.2 e
  .obtain e2|e2:=j.hat
   .exact d.2.2 (h.coat.inD b (by rw[e];exact e2))
   .have:=d.2.1;omega
def xq.snoc{α R k}(ok:kR k R){T B}{D:Nat->Prop}{W W' p l css}(h:xq R k T B D W p l css){g2}(c:nI W W' p.v g2):∀(i:Nat)(x:α)(cs:List Value),l[i]? =some x->css[i]? =some cs->R (fun b=>B<=b/\b<W.heap.size/\b≠g2) W' x cs:=
 fun i x cs h1 h2=>ok.kept (h.rep i x cs h1 h2) (fun b a=>c.kept b a.2.1 a.2.2) (fun b a=>⟨a.1,a.2.1,fun e=>by
  obtain e2|e2:=c.hat
  .exact a.2.2 (by rw[e2,e])
  .have:=a.2.1;omega⟩)
def Bp{B g z c}{D:Nat->Prop}{r}{y W W' q:World}{f v s k m css i g2 cap t H}(P:H=some ⟨{r.x with l:=r.x.l++[lJ i]},7,[]⟩)(a:Below y y W)(hA:jm W g r.x z f v s k m)(hL:AX B g c D r W f v s k m)(hO:xq jE 22 70 B D W s r.x.l css)(hrow:W'.ownsRow B 70 22 (.slice (J g2) (s.n+1) cap) (s.n+1) (css.flatten++gX (lJ i).s none 0 0))(hgr:nI W W' s.v g2)(hg2:B<=g2)(hat:r.at_<=7)(h1:c<=100001)(hg0:B<=y.heap.size)(hA2:jm q g r.x z f v ⟨some ⟨g2,0,none⟩,s.n+1,cap⟩ k (.map (some t)))(hm:oC q t [])(hbm:W'.heap.size<=t)(hk2:∀b,b≠g->b<W'.heap.size->q.heap[b]? =W'.heap[b]?)(hbe:Below g W' q):
 iE B g z c D H y (.returned (.tuple #[])) q:=by
 have M:=hL.gB;have hlt:=TK hA
 have L:∀b,(b=g\/b=g2\/b=t)->D b\/y.heap.size<=b:=by
  rintro b (e|e|e)
  .exact Or.inl (by rw[e];exact hL.dg)
  .obtain e2|e2:=hgr.hat
   .exact Or.inl (by rw[e];exact hO.inD g2 e2)
   .exact Or.inr (by have:=a.size;omega)
  .exact Or.inr (by have:=a.size;have:=hgr.size;omega)
 have S:=hbe.size;have R:=hgr.size;have Q:=a.size
 have o:∀b,B<=b->b<W.heap.size->b≠g2->Fz B (fun b=>b=g\/b=g2\/b=t) q b:=fun b h2 h3 K=>⟨h2,by omega,by
  rintro(e|e|e)
  .omega
  .exact K e
  .omega⟩
 have h:∀b,B<=b->b<W.heap.size->s.v.ownBlock≠some b->q.heap[b]? =W.heap[b]? :=fun b h2 h3 K=>(hk2 b (by omega) (by omega)).trans (hgr.kept b h3 K)
 have E:gN (Fz B D W) W q:=fun b a=>h b a.1 a.2.1 (fun e=>a.2.2 (hO.inD b e))
 have F:∀b,Fz B D W b->Fz B (fun b=>b=g\/b=g2\/b=t) q b:=fun b a=>o b a.1 a.2.1 (fun e=>by
  obtain e2|e2:=hgr.hat
  .exact a.2.2 (hO.inD b (by rw[e];exact e2))
  .have:=a.2.1;omega)
 have w:=me hrow (W':=q) (fun b e=>by cases e;exact hk2 g2 (by omega) hgr.lt);refine⟨(a.mono (by omega)).trans ((hgr.below (by omega) (fun b e=>by have:=(gT hO.row e).1;omega)).trans hbe),fun b A C=>?_,Or.inl ⟨_,P,rfl,fun b=>b=g\/b=g2\/b=t,L,⟨f,v,⟨some ⟨g2,0,none⟩,s.n+1,cap⟩,k,.map (some t),hA2,M,by omega,Or.inl rfl,fun b a=>?_,(by dsimp only;omega),(by dsimp only;omega),hL.nm,?_,?_,?_,?_⟩⟩⟩
 .have p:b≠g:=fun e=>C (by rw[e];exact hL.dg)
  have N:b<W.heap.size:=ab A a.size;exact(hk2 b p (by omega)).trans ((hgr.kept b N (fun e=>C (hO.inD b e))).trans (a.block b A))
 .obtain e|e|e:=a
  .exact⟨Or.inl e,by rw[e];omega⟩
  .exact⟨Or.inr (by omega),by have:=hgr.lt;omega⟩
  .exact⟨Or.inr (by omega),by rw[e];exact hm.lt⟩
 .exact hL.fs.close (by dsimp only;omega) (by omega) E F (fun e b u=>by
   have d:=gT (hL.fs.own (by omega)).row u;have p:=ue (hL.fs.own (by omega)).row hO.row (by decide) u
   exact⟨h b d.1 d.2 p,o b d.1 d.2 (fun e=>by
    obtain e2|e2:=hgr.hat
    .exact p (by rw[e2,e])
    .omega)⟩)
 .exact hL.ws.close (by dsimp only;omega) (by omega) E F (fun e b u=>by
   have d:=gT (hL.ws.own (by omega)).row u;have p:=ue (hL.ws.own (by omega)).row hO.row (by decide) u
   exact⟨h b d.1 d.2 p,o b d.1 d.2 (fun e=>by
    obtain e2|e2:=hgr.hat
    .exact p (by rw[e2,e])
    .omega)⟩)
 .refine⟨by have:=hL.l.1;show s.n+1<=c+1;omega,Or.inr (Or.inl ⟨rfl,r.x.l,lJ i,css,ij,g2,cap,t,?_⟩)⟩
  refine⟨rfl,by rw[hO.n],hO.len,hO.k,by rw[<- hO.n];exact w,sT.nil _ _ _ _ _,aA _,fun j x cs h2 h3=>iD.kept (hO.snoc iD hgr j x cs h2 h3) (fun b a=>hk2 b (by omega) (by omega)) (fun b a=>o b a.1 a.2.1 a.2.2),Or.inr (Or.inl rfl),by show(0:Nat)<=_;omega,rfl,hm,Or.inr (Or.inr rfl),by omega⟩
 .exact hL.cf.wait (by omega) (by dsimp only;omega) (by omega)
def DI{B g p c}{D:Nat->Prop}{r}{o W W':World}{f v s k m css nm g2 cap A}(K:A=some ⟨{r.x with cf:=r.x.cf++[⟨nm,[]⟩]},8,[]⟩)(hnm:nm.size<=1000000)(a:Below o o W)(hA:jm W g r.x p f v s k m)(hL:AX B g c D r W f v s k m)(hO:xq oB 2 75 B D W k r.x.cf css)(hrow:W'.ownsRow B 75 2 (.slice (J g2) (k.n+1) cap) (k.n+1) (css.flatten++[.string nm,.slice none 0 0]))(hgr:nI W W' k.v g2)(hg2:B<=g2)(hat:r.at_<=8)(h1:c<=100001)(hg0:B<=o.heap.size):
 iE B g p c D A o (.returned (.tuple #[])) (W'.setCell ⟨g,8,none⟩ (.slice (J g2) (k.n+1) cap)):=by
 have z:=hL.gB;have hlt:=TK hA
 have u:k.v.ownBlock≠some g:=fun e=>by have:=(gT hO.row e).1;omega
 have E:jm W' g r.x p f v s k m:=(hgr.kept g hlt u).trans hA
 have F:∀b,(b=g\/b=g2)->D b\/o.heap.size<=b:=by
  rintro b (e|e)
  .exact Or.inl (by rw[e];exact hL.dg)
  .obtain e2|e2:=hgr.hat
   .exact Or.inl (by rw[e];exact hO.inD g2 e2)
   .exact Or.inr (by have:=a.size;omega)
 obtain⟨q,t⟩:=NY z hO.inD hgr;have L:=hgr.size
 have i:∀b,B<=b->b<W.heap.size->k.v.ownBlock≠some b->W'.heap[b]? =W.heap[b]? /\Fz B (fun b=>b=g\/b=g2) W' b:=fun b h2 h3 C=>⟨hgr.kept b h3 C,h2,by omega,by
  rintro(e|e)
  .omega
  .obtain e2|e2:=hgr.hat
   .exact C (by rw[e2,e])
   .omega⟩
 refine⟨kZ ((a.mono (by omega)).trans (hgr.below (by omega) (fun b e=>by have:=(gT hO.row e).1;omega))) (aa _),fun b w y=>?_,Or.inl ⟨_,K,rfl,fun b=>b=g\/b=g2,F,⟨f,v,s,⟨some ⟨g2,0,none⟩,k.n+1,cap⟩,m,?_,?_⟩⟩⟩
 .exact(iS (fun e=>y (by rw[e];exact hL.dg))).trans ((hgr.kept b (ab w a.size) (fun e=>y (hO.inD b e))).trans (a.block b w))
 .exact nJ E rfl
 .have key:AX B g (c+1) (fun b=>b=g\/b=g2) ⟨{r.x with cf:=r.x.cf++[⟨nm,[]⟩]},8,[]⟩ W' f v s ⟨some ⟨g2,0,none⟩,k.n+1,cap⟩ m:=by
   refine⟨z,by omega,Or.inl rfl,fun b a=>?_,(by dsimp only;omega),(by dsimp only;omega),hL.nm,?_,?_,?_,?_⟩
   .obtain e|e:=a
    .exact⟨Or.inl e,by rw[e];omega⟩
    .exact⟨Or.inr (by omega),by have:=hgr.lt;omega⟩
   .exact hL.fs.close (by dsimp only;omega) (by omega) q t (fun e b d=>i b (gT (hL.fs.own (by omega)).row d).1 (gT (hL.fs.own (by omega)).row d).2 (ue (hL.fs.own (by omega)).row hO.row (by decide) d))
   .exact hL.ws.close (by dsimp only;omega) (by omega) q t (fun e b d=>i b (gT (hL.ws.own (by omega)).row d).1 (gT (hL.ws.own (by omega)).row d).2 (ue (hL.ws.own (by omega)).row hO.row (by decide) d))
   .refine hL.l.close (by show(7:Int) <8;decide) (by omega) (by omega) q t (fun e b h2 h3=>i b h2 h3 ?_)
    have H:k=ij:=by
     obtain ⟨_,h,_⟩|⟨h,_⟩|⟨h,_⟩:=hL.cf.2
     .exact h
     .omega
     .omega
    rw[H];intro e;cases e
   .refine⟨by have:=hL.cf.1;show k.n+1<=c+1;omega,Or.inr (Or.inl ⟨rfl,r.x.cf,⟨nm,[]⟩,css,ij,g2,cap,?_⟩)⟩
    exact⟨rfl,by rw[hO.n],hO.len,hO.k,by rw[<- hO.n];exact hrow,sT.nil _ _ _ _ _,aA _,fun j x cs h2 h3=>ky.kept (hO.snoc ky hgr j x cs h2 h3) (gN.refl _ _) (fun b a=>⟨a.1,by omega,by
     rintro(e|e)
     .have:=a.1;omega
     .exact a.2.2 e⟩),Or.inr rfl,hnm⟩
  exact key.keep (fun b a _=>iS (by omega)) (by simp)
def my.mapSet{B}{D:Nat->Prop}{W W' c p m l seen d l0 y css q g cap f}(h:my B D W c p m l seen l0 y css q g cap f)(j:∀b,b<W.heap.size->b≠f->W'.heap[b]? =W.heap[b]?)(r:W.heap.size<=W'.heap.size)(o:oC W' f (d.map bs)):my B D W' c p m l d l0 y css q g cap f:=by
 obtain⟨u,s,t⟩:=h.ne;have n:=h.bbB
 exact⟨h.el,h.ep,h.ecss,h.k,me h.row (fun b a=>by cases a;exact j g n.2 (fun e=>s e.symm)),h.coat.keep (fun b a=>j b (gT h.coat.row a).2 (fun e=>t (by rw[a,e]))) h.coat.inD,h.qn,
  fun i x cs h1 h2=>iD.kept (h.rep i x cs h1 h2) (fun b a=>j b a.2.1 (fun e=>a.2.2 (by rw[e];exact h.dbm))) (fun b a=>⟨a.1,ab a.2.1 r,a.2.2⟩),h.dbb,h.glass,h.em,o,h.dbm,h.bmB⟩
def my.succ{B}{D:Nat->Prop}{W c p m l seen l0 y css q a cap b}(h:my B D W c p m l seen l0 y css q a cap b):my B D W (c+1) p m l seen l0 y css q a cap b:=
 ⟨h.el,h.ep,h.ecss,h.k,h.row,h.coat,by have:=h.qn;omega,h.rep,h.dbb,h.glass,h.em,h.map,h.dbm,h.bmB⟩
def xr{B g c}{D:Nat->Prop}{r d W f v s k m l0 y css q j cap o off u s2 w A}(K:A=some ⟨{r.x with l:=l0++[⟨s2,y.zs⟩]},7,r.seen++[w]⟩)(hat:r.at_=7)(hA:jm d g r.x 7 f v s k m)(hL:AX B g c D r d f v s k m)(hS:my B D d c s m r.x.l r.seen l0 y css q j cap o)(hk:∀b,b<d.heap.size->b≠o->W.heap[b]? =d.heap[b]?)(hbe:Below B d W)(hm:oC W o ((r.seen++[w]).map bs))(hoff:off<22)(hset:(gX y.s q.a q.n q.c).set off u=gX s2 q.a q.n q.c)(hgl:s2.glass.size<=1000000)(h1:c<=100001):
 iE B g 7 c D A d (.returned (.tuple #[])) (W.setCell ⟨j,l0.length*22+off,none⟩ u):=by
 have H:=hL.gB;have F:=hS.bbB;have L:=hS.bmB;have hlt:=TK hA;have C:=hbe.size;have E:=((hS.mapSet hk C hm).store hoff hset hgl).succ
 have z:∀b,b<d.heap.size-> ¬D b->(W.setCell ⟨j,l0.length*22+off,none⟩ u).heap[b]? =d.heap[b]? :=fun b h2 h3=>(iS (fun e=>h3 (by rw[e];exact hS.dbb))).trans (hk b h2 (fun e=>h3 (by rw[e];exact hS.dbm)))
 have p:gN (Fz B D d) d (W.setCell ⟨j,l0.length*22+off,none⟩ u):=fun b i=>z b i.2.1 i.2.2
 have t:∀b,Fz B D d b->Fz B D (W.setCell ⟨j,l0.length*22+off,none⟩ u) b:=fun b i=>⟨i.1,by simpa using ab i.2.1 C,i.2.2⟩
 refine⟨(kZ hbe F.1).mono (by omega),z,Or.inl ⟨_,K,rfl,D,fun b h=>Or.inl h,f,v,s,k,m,?_,H,by omega,hL.dg,fun b i=>⟨(hL.own b i).1,by simpa using ab (hL.own b i).2 C⟩,(by dsimp only;omega),(by dsimp only;omega),hL.nm,?_,?_,?_,?_⟩⟩
 .exact(iS (by omega)).trans ((hk g hlt (by omega)).trans hA)
 .exact hL.fs.close (by dsimp only;omega) (by omega) p t (fun e=>by omega)
 .exact hL.ws.close (by dsimp only;omega) (by omega) p t (fun e=>by omega)
 .exact⟨by have:=hL.l.1;omega,Or.inr (Or.inl ⟨rfl,l0,_,css,q,j,cap,o,E⟩)⟩
 .exact hL.cf.wait (by omega) (by show(7:Int) <8;decide) (by omega)
def ID{B g c}{D:Nat->Prop}{r}{j W W':World}{f v s k m l0 y css q i cap A g2 d F z}(H:z=some ⟨{r.x with l:=l0++[⟨y.s,y.zs++F⟩]},7,r.seen⟩)(hat:r.at_=7)(a:Below j j W)(hA:jm W g r.x 7 f v s k m)(hL:AX B g c D r W f v s k m)(hS:my B D W c s m r.x.l r.seen l0 y css q i cap A)(hrow:W'.ownsRow B 67 3 (.slice (J g2) (q.n+1) d) (q.n+1) (y.zs.map (Value.int .i64)++F.map (Value.int .i64)))(hgr:nI W W' q.v g2)(hg2:B<=g2)(hg0:B<=j.heap.size)(h1:c<=100001):
 iE B g 7 c D z j (.returned (.tuple #[])) (W'.setCell ⟨i,l0.length*22+21,none⟩ (.slice (J g2) (q.n+1) d)):=by
 have E:=hL.gB;have K:=hS.bbB;have hlt:=TK hA;have w:=hgr.size;have L:=a.size
 have o:q.v.ownBlock≠some g:=fun e=>by have:=(gT hS.coat.row e).1;omega
 have C:=hS.film hrow hgr
 have u:∀b,b<W.heap.size-> ¬D b->(W'.setCell ⟨i,l0.length*22+21,none⟩ (.slice (J g2) (q.n+1) d)).heap[b]? =W.heap[b]? :=fun b h2 h3=>(iS (fun e=>h3 (by rw[e];exact hS.dbb))).trans (hgr.kept b h2 (fun e=>h3 (hS.coat.inD b e)))
 have p:gN (Fz B D W) W (W'.setCell ⟨i,l0.length*22+21,none⟩ (.slice (J g2) (q.n+1) d)):=fun b a=>u b a.2.1 a.2.2
 have t:∀b,Fz B D W b->Fz B (fun b=>D b\/b=g2) (W'.setCell ⟨i,l0.length*22+21,none⟩ (.slice (J g2) (q.n+1) d)) b:=fun b a=>⟨a.1,by simpa using ab a.2.1 w,by
  rintro(e|e)
  .exact a.2.2 e
  .obtain e2|e2:=hgr.hat
   .exact a.2.2 (hS.coat.inD b (by rw[e];exact e2))
   .have:=a.2.1;omega⟩
 refine⟨(a.mono (by omega)).trans (kZ (hgr.below (g:=g) (by omega) (fun b e=>by have:=(gT hS.coat.row e).1;omega)) (by omega)),fun b h2 h3=>(u b (by omega) h3).trans (a.block b h2),Or.inl ⟨_,H,rfl,fun b=>D b\/b=g2,fun b h=>?_,f,v,s,k,m,?_,E,by omega,Or.inl hL.dg,fun b a=>?_,(by dsimp only;omega),(by dsimp only;omega),hL.nm,?_,?_,?_,?_⟩⟩
 .obtain h|h:=h
  .exact Or.inl h
  .obtain e2|e2:=hgr.hat
   .exact Or.inl (hS.coat.inD b (by rw[h];exact e2))
   .exact Or.inr (by omega)
 .exact(iS (by omega)).trans ((hgr.kept g hlt o).trans hA)
 .obtain a|a:=a
  .exact⟨(hL.own b a).1,by simpa using ab (hL.own b a).2 w⟩
  .exact⟨Or.inr (by omega),by have:=hgr.lt;simp;omega⟩
 .exact hL.fs.close (by dsimp only;omega) (by omega) p t (fun e=>by omega)
 .exact hL.ws.close (by dsimp only;omega) (by omega) p t (fun e=>by omega)
 .exact⟨by have:=hL.l.1;omega,Or.inr (Or.inl ⟨rfl,l0,_,css,_,i,cap,A,C⟩)⟩
 .exact hL.cf.wait (by omega) (by show(7:Int) <8;decide) (by omega)
def DJ{B g c}{D:Nat->Prop}{r}{p W W':World}{f v s k m l0 y css q i cap g2 d E z}(F:z=some ⟨{r.x with cf:=l0++[⟨y.nm,y.zs++E⟩]},8,r.seen⟩)(hat:r.at_=8)(a:Below p p W)(hA:jm W g r.x 8 f v s k m)(hL:AX B g c D r W f v s k m)(hS:qL B D W c k r.x.cf l0 y css q i cap)(hrow:W'.ownsRow B 72 3 (.slice (J g2) (q.n+1) d) (q.n+1) (y.zs.map (Value.int .i64)++E.map (Value.int .i64)))(hgr:nI W W' q.v g2)(hg2:B<=g2)(hg0:B<=p.heap.size)(h1:c<=100001):
 iE B g 8 c D z p (.returned (.tuple #[])) (W'.setCell ⟨i,l0.length*2+1,none⟩ (.slice (J g2) (q.n+1) d)):=by
 have C:=hL.gB;have H:=hS.bbB;have hlt:=TK hA;have w:=hgr.size;have K:=a.size
 have t:q.v.ownBlock≠some g:=fun e=>by have:=(gT hS.coat.row e).1;omega
 have A:=hS.film hrow hgr
 have u:∀b,b<W.heap.size-> ¬D b->(W'.setCell ⟨i,l0.length*2+1,none⟩ (.slice (J g2) (q.n+1) d)).heap[b]? =W.heap[b]? :=fun b h2 h3=>(iS (fun e=>h3 (by rw[e];exact hS.dbb))).trans (hgr.kept b h2 (fun e=>h3 (hS.coat.inD b e)))
 have j:gN (Fz B D W) W (W'.setCell ⟨i,l0.length*2+1,none⟩ (.slice (J g2) (q.n+1) d)):=fun b a=>u b a.2.1 a.2.2
 have o:∀b,Fz B D W b->Fz B (fun b=>D b\/b=g2) (W'.setCell ⟨i,l0.length*2+1,none⟩ (.slice (J g2) (q.n+1) d)) b:=fun b a=>⟨a.1,by simpa using ab a.2.1 w,by
  rintro(e|e)
  .exact a.2.2 e
  .obtain e2|e2:=hgr.hat
   .exact a.2.2 (hS.coat.inD b (by rw[e];exact e2))
   .have:=a.2.1;omega⟩
 refine⟨(a.mono (by omega)).trans (kZ (hgr.below (g:=g) (by omega) (fun b e=>by have:=(gT hS.coat.row e).1;omega)) (by omega)),fun b h2 h3=>(u b (by omega) h3).trans (a.block b h2),Or.inl ⟨_,F,rfl,fun b=>D b\/b=g2,fun b h=>?_,f,v,s,k,m,?_,C,by omega,Or.inl hL.dg,fun b a=>?_,(by dsimp only;omega),(by dsimp only;omega),hL.nm,?_,?_,?_,?_⟩⟩
 .obtain h|h:=h
  .exact Or.inl h
  .obtain e2|e2:=hgr.hat
   .exact Or.inl (hS.coat.inD b (by rw[h];exact e2))
   .exact Or.inr (by omega)
 .exact(iS (by omega)).trans ((hgr.kept g hlt t).trans hA)
 .obtain a|a:=a
  .exact⟨(hL.own b a).1,by simpa using ab (hL.own b a).2 w⟩
  .exact⟨Or.inr (by omega),by have:=hgr.lt;simp;omega⟩
 .exact hL.fs.close (by dsimp only;omega) (by omega) j o (fun e=>by omega)
 .exact hL.ws.close (by dsimp only;omega) (by omega) j o (fun e=>by omega)
 .exact hL.l.close (by show(7:Int) <8;decide) (by omega) (by omega) j o (fun e=>by omega)
 .exact⟨by have:=hL.cf.1;omega,Or.inr (Or.inl ⟨rfl,l0,_,css,_,i,cap,A⟩)⟩
def lF{ws e}(h:JL ws e):(∃v,ws=[v]/\e=.returned (.string (bs v)))\/(ws.length≠1/\e=iX):=by
 match ws,h with
 |[],h=>exact Or.inr ⟨by simp,h⟩
 |[v],h=>exact Or.inl ⟨v,rfl,h⟩
 |v::u::r,h=>exact Or.inr ⟨by simp,h⟩
def oX{x k ws}(a:k<5\/k=7\/k=8)(h:ws.length≠1):jk x k ws=none:=by
 match ws,h with
 |[],_=>obtain a|rfl|rfl:=a
        .match k,a with
         |0,_=>rfl
         |1,_=>rfl
         |2,_=>rfl
         |3,_=>rfl
         |4,_=>rfl
         |k+5,a=>omega
        .rfl
        .rfl
 |[v],h=>simp at h
 |v::u::r,_=>obtain a|rfl|rfl:=a
             .match k,a with
              |0,_=>rfl
              |1,_=>rfl
              |2,_=>rfl
              |3,_=>rfl
              |4,_=>rfl
              |k+5,a=>omega
             .rfl
             .rfl
def xt(x v):jk x 1 [v]=if v=lQ then some x else(lp v 6).map fun n=>{x with dist:=n}:=rfl
def la{x k ws}(h:jk x k ws=none):((jk x k ws).map fun y=>(⟨y,(k:Int),[]⟩:jL))=none:=by rw[h];rfl
def map_some{x y k ws}(h:jk x k ws=some y):((jk x k ws).map fun y=>(⟨y,(k:Int),[]⟩:jL))=some ⟨y,(k:Int),[]⟩:=by rw[h];rfl
def jm.cell{W g x a f v s k m}(h:jm W g x a f v s k m)(j):W.cell? ⟨g,j,none⟩=(iw x f v s k++[.int .i64 a,m])[j]? /\W.frozen? ⟨g,j,none⟩=false:=by
 have:=gA h j;rw[bo]at this;exact⟨this,gD h j⟩
def jm.go{W W' g x a f v s k m}(h:jm W g x a f v s k m)(b:Below W W W'):jm W' g x a f v s k m:=(b.block g (TK h)).trans h
def AX.go{B g c}{D:Nat->Prop}{r W W' f v s k m}(h:AX B g c D r W f v s k m)(a:Below W W W'):AX B g c D r W' f v s k m:=h.keep (fun b _ d=>a.block b d) a.size
def FL{B g e c}{D:Nat->Prop}{r}{d W:World}{f v s k m}{n:Nat}{i}(t:i=some ⟨r.x,(n:Int),[]⟩)(j:Below d d W)(q:jm W g r.x e f v s k m)(a:AX B g c D r W f v s k m)(hat:r.at_<5)(u:n<5)(h1:c<=100001)(p:g<=d.heap.size):iE B g e c D i d (.returned (.tuple #[])) W:=
 ⟨j.mono p,fun b o _=>j.block b o,Or.inl ⟨_,t,rfl,D,fun _ h=>Or.inl h,f,v,s,k,m,q,a.gB,by omega,a.dg,a.own,by show(-1:Int)<=(n:Int);omega,by show(n:Int)<=9;omega,a.nm,
   a.fs.wait (by omega) (by show(n:Int) <5;omega) (by omega),a.ws.wait (by omega) (by show(n:Int) <6;omega) (by omega),a.l.wait (by omega) (by show(n:Int) <7;omega) (by omega),a.cf.wait (by omega) (by show(n:Int) <8;omega) (by omega)⟩⟩
def Tb(l):(bs l).size=l.length:=rfl
def LM{B g d cc}{D:Nat->Prop}{r W ws a n c}(h:vM B g d cc D r W)(hw:ua W a n c ws W)(z:∀s∈ws,s.length<=100000)(hat:r.at_<5)(L:cc<=100001)(P:B<=W.heap.size)(w:GW W):
 Calls prog 327 #[U g,Z a n c] W (iE B g d cc D ((jk r.x 0 ws).map fun y=>⟨y,((0:Nat):Int),[]⟩) W):=by
 obtain⟨f,v,s,k,m,q,i⟩:=h;have M:=i.gB;have j:=O q;have E:=O i;have N:=O w;have l:=O hat;have F:=O z;have H:=O hw;clear q i w hat z hw
 go_enter func327,ntmps327
 go_wp2_with fail
 refine(nF ws a n c _ W H).mono ?_;rintro e Q ⟨u,rfl⟩
 obtain ⟨x,rfl,rfl⟩|⟨A,rfl⟩:=lF u
 .have C:=F x (by simp)
  obtain⟨c0,f0⟩:=j.cell 0;have K:=O C;clear C u
  go_wp2_with fail
  go_end0;exact qM (map_some rfl) (TH _ _) j E rfl ⟨rfl,rfl,rfl,rfl⟩ (by have:=K.out;show(bs x).size<=_;rw[Tb];omega) l (by omega) L (by omega)
 .have t:iE B g d cc D ((jk r.x 0 ws).map fun y=>(⟨y,((0:Nat):Int),[]⟩:jL)) W iX W:=iE.bad (la (oX (by omega) A)) (TH _ _) (by omega)
  have o:=O t;clear t;have b:=o.out;unfold iX at b⊢;have p:=O b;clear b o
  go_wp2_with fail
  exact⟨rfl,p⟩
def IE{B g j cc}{D:Nat->Prop}{r W ws a n c}(h:vM B g j cc D r W)(hw:ua W a n c ws W)(H:∀s∈ws,s.length<=100000)(hat:r.at_<5)(T:cc<=100001)(hB:B<=W.heap.size)(F:GW W):
 Calls prog 329 #[U g,Z a n c] W (iE B g j cc D ((jk r.x 2 ws).map fun y=>⟨y,((2:Nat):Int),[]⟩) W):=by
 obtain⟨f,v,s,k,m,E,u⟩:=h;have a0:=u.gB;have M:=O E;have N:=O u;have P:=O F;have A:=O hat;have Q:=O H;have S:=O hw;clear E u F hat H hw
 go_enter func329,ntmps329
 go_wp2_with fail
 refine(nF ws a n c _ W S).mono ?_;rintro e w1 ⟨i,rfl⟩
 obtain ⟨x,rfl,rfl⟩|⟨K,rfl⟩:=lF i
 .have X:=Q x (by simp)
  clear i
  go_wp2_with fail
  refine(mL x 6 W X (by omega) P).mono ?_;rintro e w2 ⟨i,d⟩
  cases hv:lp x 6 with
  |none=>
   unfold kX at i;rw[hv]at i;subst i;have p:iE B g j cc D ((jk r.x 2 [x]).map fun y=>(⟨y,((2:Nat):Int),[]⟩:jL)) W iX w2:=iE.bad (la (by show(lp x 6).map _=none;rw[hv];rfl)) d (by omega);have b:=p;clear p hv d;unfold iX at b⊢;have l:=O b;clear b
   go_wp2_with fail
   exact⟨rfl,l⟩
  |some z=>
   unfold kX at i;rw[hv]at i;subst i;have o:=M.go d;have t:=N.go d;have L:((jk r.x 2 [x]).map fun y=>(⟨y,((2:Nat):Int),[]⟩:jL))=some ⟨{r.x with pupil:=z},((2:Nat):Int),[]⟩:=map_some (by show(lp x 6).map _=_;rw[hv];rfl);obtain⟨c0,f0⟩:=o.cell 2;have w:=O o;have q:=O t;have b:=O d;have R:=O L;clear o t d L hv
   go_wp2_with fail
   go_end0;exact qM R b w q rfl ⟨rfl,rfl,rfl,rfl⟩ q.nm A (by omega) T (by omega)
 .have p:iE B g j cc D ((jk r.x 2 ws).map fun y=>(⟨y,((2:Nat):Int),[]⟩:jL)) W iX W:=iE.bad (la (oX (by omega) K)) (TH _ _) (by omega)
  have C:=O p;clear p;have b:=C.out;unfold iX at b⊢;have l:=O b;clear b C
  go_wp2_with fail
  exact⟨rfl,l⟩
def LN{B g j cc}{D:Nat->Prop}{r W ws a n c}(h:vM B g j cc D r W)(hw:ua W a n c ws W)(H:∀s∈ws,s.length<=100000)(hat:r.at_<5)(T:cc<=100001)(hB:B<=W.heap.size)(F:GW W):
 Calls prog 330 #[U g,Z a n c] W (iE B g j cc D ((jk r.x 3 ws).map fun y=>⟨y,((3:Nat):Int),[]⟩) W):=by
 obtain⟨f,v,s,k,m,E,u⟩:=h;have a0:=u.gB;have M:=O E;have N:=O u;have P:=O F;have A:=O hat;have Q:=O H;have S:=O hw;clear E u F hat H hw
 go_enter func330,ntmps330
 go_wp2_with fail
 refine(nF ws a n c _ W S).mono ?_;rintro e w1 ⟨i,rfl⟩
 obtain ⟨x,rfl,rfl⟩|⟨K,rfl⟩:=lF i
 .have X:=Q x (by simp)
  clear i
  go_wp2_with fail
  refine(mL x 0 W X (by omega) P).mono ?_;rintro e w2 ⟨i,d⟩
  cases hv:lp x 0 with
  |none=>
   unfold kX at i;rw[hv]at i;subst i;have p:iE B g j cc D ((jk r.x 3 [x]).map fun y=>(⟨y,((3:Nat):Int),[]⟩:jL)) W iX w2:=iE.bad (la (by show(lp x 0).map _=none;rw[hv];rfl)) d (by omega);have b:=p;clear p hv d;unfold iX at b⊢;have l:=O b;clear b
   go_wp2_with fail
   exact⟨rfl,l⟩
  |some z=>
   unfold kX at i;rw[hv]at i;subst i;have o:=M.go d;have t:=N.go d;have L:((jk r.x 3 [x]).map fun y=>(⟨y,((3:Nat):Int),[]⟩:jL))=some ⟨{r.x with stop:=z},((3:Nat):Int),[]⟩:=map_some (by show(lp x 0).map _=_;rw[hv];rfl);obtain⟨c0,f0⟩:=o.cell 3;have w:=O o;have q:=O t;have b:=O d;have R:=O L;clear o t d L hv
   go_wp2_with fail
   go_end0;exact qM R b w q rfl ⟨rfl,rfl,rfl,rfl⟩ q.nm A (by omega) T (by omega)
 .have p:iE B g j cc D ((jk r.x 3 ws).map fun y=>(⟨y,((3:Nat):Int),[]⟩:jL)) W iX W:=iE.bad (la (oX (by omega) K)) (TH _ _) (by omega)
  have C:=O p;clear p;have b:=C.out;unfold iX at b⊢;have l:=O b;clear b C
  go_wp2_with fail
  exact⟨rfl,l⟩
def DK{B g j cc}{D:Nat->Prop}{r W ws a n c}(h:vM B g j cc D r W)(hw:ua W a n c ws W)(H:∀s∈ws,s.length<=100000)(hat:r.at_<5)(T:cc<=100001)(hB:B<=W.heap.size)(F:GW W):
 Calls prog 331 #[U g,Z a n c] W (iE B g j cc D ((jk r.x 4 ws).map fun y=>⟨y,((4:Nat):Int),[]⟩) W):=by
 obtain⟨f,v,s,k,m,E,u⟩:=h;have a0:=u.gB;have M:=O E;have N:=O u;have P:=O F;have A:=O hat;have Q:=O H;have S:=O hw;clear E u F hat H hw
 go_enter func331,ntmps331
 go_wp2_with fail
 refine(nF ws a n c _ W S).mono ?_;rintro e w1 ⟨i,rfl⟩
 obtain ⟨x,rfl,rfl⟩|⟨K,rfl⟩:=lF i
 .have X:=Q x (by simp)
  clear i
  go_wp2_with fail
  refine(mL x 0 W X (by omega) P).mono ?_;rintro e w2 ⟨i,d⟩
  cases hv:lp x 0 with
  |none=>
   unfold kX at i;rw[hv]at i;subst i;have p:iE B g j cc D ((jk r.x 4 [x]).map fun y=>(⟨y,((4:Nat):Int),[]⟩:jL)) W iX w2:=iE.bad (la (by show(lp x 0).map _=none;rw[hv];rfl)) d (by omega);have b:=p;clear p hv d;unfold iX at b⊢;have l:=O b;clear b
   go_wp2_with fail
   exact⟨rfl,l⟩
  |some z=>
   unfold kX at i;rw[hv]at i;subst i;have o:=M.go d;have t:=N.go d;have L:((jk r.x 4 [x]).map fun y=>(⟨y,((4:Nat):Int),[]⟩:jL))=some ⟨{r.x with prim:=z},((4:Nat):Int),[]⟩:=map_some (by show(lp x 0).map _=_;rw[hv];rfl);obtain⟨c0,f0⟩:=o.cell 4;have w:=O o;have q:=O t;have b:=O d;have R:=O L;clear o t d L hv
   go_wp2_with fail
   go_end0;exact qM R b w q rfl ⟨rfl,rfl,rfl,rfl⟩ q.nm A (by omega) T (by omega)
 .have p:iE B g j cc D ((jk r.x 4 ws).map fun y=>(⟨y,((4:Nat):Int),[]⟩:jL)) W iX W:=iE.bad (la (oX (by omega) K)) (TH _ _) (by omega)
  have C:=O p;clear p;have b:=C.out;unfold iX at b⊢;have l:=O b;clear b C
  go_wp2_with fail
  exact⟨rfl,l⟩
def FM{B g j cc}{D:Nat->Prop}{r W ws a n c}(h:vM B g j cc D r W)(hw:ua W a n c ws W)(N:∀s∈ws,s.length<=100000)(hat:r.at_<5)(L:cc<=100001)(hB:B<=W.heap.size)(M:GW W):
 Calls prog 328 #[U g,Z a n c] W (iE B g j cc D ((jk r.x 1 ws).map fun y=>⟨y,((1:Nat):Int),[]⟩) W):=by
 obtain⟨f,v,s,k,m,K,w⟩:=h;have a0:=w.gB;have A:=O K;have E:=O w;have T:=O M;have t:=O hat;have X:=O N;have Hw:=O hw;clear K w M hat N hw
 go_enter func328,ntmps328
 go_wp2_with fail
 refine(nF ws a n c _ W Hw).mono ?_;rintro e w1 ⟨i,rfl⟩
 obtain ⟨x,rfl,rfl⟩|⟨Q,rfl⟩:=lF i
 .have hx:=X x (by simp)
  clear i
  by_cases hi:x=lQ
  .subst hi
   have R:iE B g j cc D ((jk r.x 1 [lQ]).map fun y=>(⟨y,((1:Nat):Int),[]⟩:jL)) W (.returned (.tuple #[])) W:=FL (map_some (y:=r.x) (by rw[xt,aq rfl])) (TH _ _) A E t (by omega) L (by omega);have Hp:=O R;clear R
   have P:(bs lQ=={data:=#[105,110,102,105,110,105,116,121]})=true:=by decide
   go_wp2_with fail
   go_end0;exact Hp
  .have P:(x==[105,110,102,105,110,105,116,121])=false:=by rw[ak];exact hi
   have H:=O hi;clear hi
   go_wp2_with fail
   refine(mL x 6 W hx (by omega) T).mono ?_;rintro e w2 ⟨i,d⟩
   cases hv:lp x 6 with
   |none=>
    unfold kX at i;rw[hv]at i;subst i;have p:iE B g j cc D ((jk r.x 1 [x]).map fun y=>(⟨y,((1:Nat):Int),[]⟩:jL)) W iX w2:=iE.bad (la (by rw[xt,aj H.out,hv];rfl)) d (by omega);have b:=p;clear p hv d;unfold iX at b⊢;have l:=O b;clear b
    go_wp2_with fail
    exact⟨rfl,l⟩
   |some z=>
    unfold kX at i;rw[hv]at i;subst i;have o:=A.go d;have u:=E.go d;have S:((jk r.x 1 [x]).map fun y=>(⟨y,((1:Nat):Int),[]⟩:jL))=some ⟨{r.x with dist:=z},((1:Nat):Int),[]⟩:=map_some (by rw[xt,aj H.out,hv];rfl);obtain⟨c0,f0⟩:=o.cell 1;have C:=O o;have q:=O u;have b:=O d;have Hr:=O S;clear o u d S hv
    go_wp2_with fail
    go_end0;exact qM Hr b C q rfl ⟨rfl,rfl,rfl,rfl⟩ q.nm t (by omega) L (by omega)
 .have p:iE B g j cc D ((jk r.x 1 ws).map fun y=>(⟨y,((1:Nat):Int),[]⟩:jL)) W iX W:=iE.bad (la (oX (by omega) Q)) (TH _ _) (by omega)
  have F:=O p;clear p;have b:=F.out;unfold iX at b⊢;have l:=O b;clear b F
  go_wp2_with fail
  exact⟨rfl,l⟩
def N0{B g d cc}{D:Nat->Prop}{r W ws a n c}(h:vM B g d cc D r W)(hw:ua W a n c ws W)(hat:r.at_<=8)(w:cc<=100001)(t:B<=W.heap.size):
 Calls prog 336 #[U g,Z a n c] W (iE B g d cc D ((jk r.x 9 ws).map fun y=>⟨y,((9:Nat):Int),[]⟩) W):=by
 have b:=hw.1
 have A:g<B:=by obtain⟨f,v,s,k,m,E,u⟩:=h;exact u.gB
 have H:=O h;have C:=O hw;clear h hw
 go_enter func336,ntmps336
 match ws,b with
 |[],b=>
  obtain rfl:n=0:=b.symm;have p:iE B g d cc D ((jk r.x 9 []).map fun y=>(⟨y,((9:Nat):Int),[]⟩:jL)) W (.returned (.tuple #[])) W:=LL (map_some (k:=9) rfl) (TH _ _) H hat w t;have q:=O p;clear p b
  go_wp2_with fail
  refine(kW W).mono ?_;rintro e z ⟨rfl,rfl⟩
  go_wp2_with fail
  go_end0;exact q
 |v::r',b=>
  have h0:((n:Int)==0)=false:=by rw[ak];simp at b;omega
  have o:iE B g d cc D ((jk r.x 9 (v::r')).map fun y=>(⟨y,((9:Nat):Int),[]⟩:jL)) W iX W:=iE.bad (la (k:=9) rfl) (TH _ _) (by omega);have j:=O o;clear o b
  go_wp2_with fail
  refine(lm W).mono ?_;rintro e z ⟨rfl,rfl⟩;have i:=j.out;unfold iX at i⊢;have l:=O i;clear i j
  go_wp2_with fail
  exact⟨rfl,l⟩
def nR{o:Oper}{a}{K:Act->World->Prop}{Q:Exit->Act->World->Prop}{T e z k b}(f:prog.underlying e=some (.slice T))(q:(prog.info? T).map (fun i=>(i.zero,i.size,i.bytes))=some (some z,k,b))(y:z.cells.size=k)(r:0<k)(g:b<=10000)(s x)(w:o.op=.call {callee:=.builtin .append,args:=#[s,x],argTypes:=#[e,e]})(base)(W:World)(v:Value)(n B0:Nat)(xs cs:List Value)(hs:a.eval s=v)(hrow:W.ownsRow base T k v n xs)(hnew:W.heap[B0]? =some (.cells cs.toArray T (0,0)))(hx:a.eval x=.slice (J B0) 1 1)(hcl:cs.length=k)(h1:∀u∈cs,u.oneCell'=true)(hlen:n<=1000000)(hbase:base<=W.heap.size)(h:∀g2 cap w',w'.ownsRow base T k (.slice (J g2) (n+1) cap) (n+1) (xs++cs)->nI W w' v g2->base<=g2->K (a.put o.dst (.slice (J g2) (n+1) cap)) w'):
 o.wp prog a W K Q:=by
 obtain⟨i,j,l,m,p⟩:=sd q
 refine wp_append_lies _ s x e w base T i z k b f j l m p y r v n xs hs hrow (J B0) 1 1 cs hx (by omega) (World.news_of_block (cs:=cs.toArray) (t:=T) (fr:=(0,0)) hnew) h1
  (by omega) (by unfold maxLen;omega) (af (cB (show n+1<=1000001 by omega) g) (by omega)) hbase _ rfl ?_
 intro g2 cap w' c d hat hlt;exact h g2 cap w' c (LJ (TH _ _) d hat (aa _) hlt) (c.lt g2 rfl).1
def DL{ops c o a}{Q:Exit->Act->World->Prop}{T d z}{k b:Nat}(e:prog.underlying d=some (.slice T))(m:(prog.info? T).map (fun i=>(i.zero,i.size,i.bytes))=some (some z,k,b))(r:z.cells.size=k)(p:0<k)(f:b<=10000)(g:o.guard=none)(s x:Operand)(q:o.op=.call {callee:=.builtin .append,args:=#[s,x],argTypes:=#[d,d]})(base:Nat)(W:World)(v:Value)(n B0:Nat)(xs cs:List Value)(hs:a.eval s=v)(hrow:W.ownsRow base T k v n xs)(hnew:W.heap[B0]? =some (.cells cs.toArray T (0,0)))(hx:a.eval x=.slice (J B0) 1 1)(hcl:cs.length=k)(h1:∀u∈cs,u.oneCell'=true)(hlen:n<=1000000)(hbase:base<=W.heap.size)(h:∀g2 cap w',w'.ownsRow base T k (.slice (J g2) (n+1) cap) (n+1) (xs++cs)->nI W w' v g2->base<=g2->wpList prog ops Q c (a.put o.dst (.slice (J g2) (n+1) cap)) w'):
 wpList prog ops Q (o::c) a W:=
 eT g fun _ l=>nR e m r p f s x q base W v n B0 xs cs hs hrow hnew hx hcl h1 hlen hbase (fun g2 cap w' h2 h3 j=>l _ _ (h g2 cap w' h2 h3 j))
def sV{w w' a n c ws}(h:ua w a n c ws w)(b:Below w w w'):ua w' a n c ws w':=h.kept (fun k d=>b.block k d) b.size
def ym(x ws):jk x 5 ws=(kF ws [6,6]).map fun a=>{x with fs:=x.fs++a}:=by
 match ws with
 |[]=>rfl
 |[_]=>rfl
 |_::_::_=>rfl
def Av(x ws):jk x 6 ws=(kF ws [3,0]).map fun a=>{x with ws:=x.ws++a}:=by
 match ws with
 |[]=>rfl
 |[_]=>rfl
 |_::_::_=>rfl
def N1{w:World}(d e:Nat):SL (w.alloc (.cells #[.int .i64 (d:Int),.int .i64 (e:Int)] 3)).heap.size (w.alloc (.cells #[.int .i64 (d:Int),.int .i64 (e:Int)] 3)) (J (w.heap.size)) 2 2 ([d,e].map fun(x:Nat)=>(x:Int)):=by
 refine⟨rfl,aa _,fun _=>⟨w.heap.size,0,rfl,by simp,fun j a=>?_⟩⟩;have b:=TL w (.cells #[.int .i64 (d:Int),.int .i64 (e:Int)] 3)
 match j,a with
 |0,_=>exact gA b 0
 |1,_=>exact gA b 1
 |j+2,a=>omega
def Tryz.infoFieldQ:(prog.info? 112).map (fun i=>(i.zero,i.size,i.bytes))=some (some (.agg #[oZ,oZ]),2,16):=by kernel_rfl
def IF{B g N cc}{D:Nat->Prop}{r W ws a n c}(h:vM B g N cc D r W)(hw:ua W a n c ws W)(hl:∀s∈ws,s.length<=100000)(hn:ws.length<=100000)(hat:r.at_<=5)(hc:cc<=100001)(hB:B<=W.heap.size)(hg:GW W):
 Calls prog 332 #[U g,Z a n c] W (iE B g N cc D ((jk r.x 5 ws).map fun y=>⟨y,((5:Nat):Int),[]⟩) W):=by
 obtain⟨f,v,s,k,m,a3,w⟩:=h;have b2:=w.gB;have z:=(TH W W).alloc (aa _) (.cells #[.int .i64 ((6:Nat):Int),.int .i64 ((6:Nat):Int)] 3);have q:=O (w.fs.own hat);have H:=O a3;have L:=O w;have Hw:=O (sV hw z);have Hl:=O hl;have Hg:=O (hg.below z);have a1:=O hat;have Hn:=O hn;have l:=O z;have a8:=O hw.1;clear a3 w hw hl hg hat hn z
 go_enter func332,ntmps332
 go_wp2_with fail
 refine(sS ws [6,6] a _ n 2 c 2 _ Hw (N1 6 6) (by have:=a8.out;have:=Hn.out;omega) (by omega) Hl (by decide) Hg).mono ?_;rintro e o F
 cases hv:kF ws [6,6]with
 |none=>
  unfold mu at F;rw[hv]at F;obtain⟨rfl,i⟩:=F;have hb:iE B g N cc D ((jk r.x 5 ws).map fun y=>(⟨y,((5:Nat):Int),[]⟩:jL)) W iX o:=iE.bad (la (by rw[ym,hv];rfl)) (I l i) (cE (ab b2 hB));have M:=hb;clear hb hv i l Hw H L q;unfold iX at M⊢;have a6:=O M;clear M
  go_wp2_with fail
  exact⟨rfl,a6⟩
 |some zs=>
  have hz:=(qj _ _ _ hv);unfold mu at F;rw[hv]at F;obtain⟨⟨a2,c2,rfl,hs,b0⟩,i⟩:=F
  obtain⟨z0,t,rfl⟩:∃z0 t,zs=[z0,t]:=by
   have:zs.length=2:=by rw[hz.1,hz.2];rfl
   match zs,this with
   |[x,y],_=>exact⟨x,y,rfl⟩
  obtain⟨b,off,rfl,a5,R⟩:=hs.at (by show 0<2;omega)
  have b9:W.heap.size<b:=by have:=b0 b rfl;simp at this;omega
  have n0:o.cell? ⟨b,off,none⟩=some (.int .i64 z0):=R 0 (by show 0<2;omega);have n1:o.cell? ⟨b,off+1,none⟩=some (.int .i64 t):=R 1 (by show 1<2;omega);have c0:2<=c2:=hs.2.1;have X:=H.go (I l i);have hL:=L.go (I l i);have hr:((jk r.x 5 ws).map fun y=>(⟨y,((5:Nat):Int),[]⟩:jL))=some ⟨{r.x with fs:=r.x.fs++[z0,t]},5,[]⟩:=map_some (k:=5) (by rw[ym,hv];rfl);obtain⟨cg,fg⟩:=X.cell 5;have b3:=TK X;have b5:=hL.fs.1;have Hr:=O hr;have Hb:=O (I l i);have HA:=O X;have HL:=O hL
  have b8:B<=o.heap.size:=by have:=(I l i).size;omega
  clear hr X hL i hv hz R hs l Hw H L;obtain⟨fa,fn,fc⟩:=f
  change o.cell? ⟨g,5,none⟩=some (.slice fa fn fc)at cg
  change fn<=cc at b5
  go_upto_region 1 with fail
  refine kC (S:=fun x=>x=g\/x=b) 15 [(0,true),(1,true),(2,true),(3,true),(4,true),(5,true),(6,true),(7,true),(8,true),(9,true),(10,true),(11,true),(12,true),(13,false),(14,false)] (by kernel_rfl) (by kernel_rfl) ?_
  iterate 13
   refine kQ (v:=?_) rfl (fun _ _ _ h=>h) (by rfl) ?_ ?_;rotate_left
   .intro y hy
    have k1:=(hy.cell (p:=⟨g,5,none⟩) (Or.inl rfl)).trans cg;have k2:=(hy.cell (p:=⟨b,off,none⟩) (Or.inr rfl)).trans n0;have k3:=(hy.cell (p:=⟨b,off+1,none⟩) (Or.inr rfl)).trans n1;go_simp
    with_reducible rfl
   try simp only[V]
  refine iT rfl rfl (fun K P=>?_);go_simp;refine P _ _ (fun x hx=>iC (by obtain rfl|rfl:=hx;exact b3;exact a5)) ?_;clear P K
  try simp only[V]
  have d:Below o o (o.drew.alloc (.cells [Value.int .i64 z0,.int .i64 t].toArray 112)):=gY ((TH _ _).drew);have u:=HA.go d;have Q:=HL.go d;have j:=Q.fs.own a1;have a0:=ab a5 d.size
  have a9:B<=(o.drew.alloc (.cells [Value.int .i64 z0,.int .i64 t].toArray 112)).heap.size:=by have:=d.size;omega
  have C:=TK u;refine iT rfl rfl (fun K P=>?_);refine nR underlying32 Tryz.infoFieldQ rfl (by omega) (by omega) _ _ rfl B _ (.slice fa fn fc) fn o _ [.int .i64 z0,.int .i64 t] rfl j.row (TL o.drew _) rfl rfl (by simp[Value.oneCell']) (by omega) a9 ?_;intro g2 cap w3 E A b1;have b4:b≠g/\(Value.slice fa fn fc).ownBlock≠some b:=⟨by omega,fun e=>by have:=(gT q.row e).2;omega⟩;refine P _ _ (fun x hx=>A.kept x (by obtain rfl|rfl:=hx;exact C;exact a0) (by obtain rfl|rfl:=hx;exact(fun e=>by have:=(gT j.row e).1;omega);exact b4.2)) ?_;clear P K;have a4:=(A.kept g C (fun e=>by have:=(gT j.row e).1;omega)).trans u;obtain⟨b6,b7⟩:=jm.cell a4 5;have HA:=O u;have HL:=O Q;have Hb:=O (I Hb d);have T:=O E;have a7:=O A;clear u Q j d E A a4 cg fg n0 n1
  try simp only[V]
  refine nK rfl ?_
  go_wp2_with fail
  go_end0;exact FK Hr Hb HA HL T a7 b1 a1 hc hB
def Tryz.infoWaveQ:(prog.info? 63).map (fun i=>(i.zero,i.size,i.bytes))=some (some (.agg #[oZ,oZ]),2,16):=by kernel_rfl
def LQ{B g N cc}{D:Nat->Prop}{r W ws a n c}(h:vM B g N cc D r W)(hw:ua W a n c ws W)(hl:∀s∈ws,s.length<=100000)(hn:ws.length<=100000)(hat:r.at_<=6)(hc:cc<=100001)(hB:B<=W.heap.size)(hg:GW W):
 Calls prog 333 #[U g,Z a n c] W (iE B g N cc D ((jk r.x 6 ws).map fun y=>⟨y,((6:Nat):Int),[]⟩) W):=by
 obtain⟨f,v,s,k,m,a3,w⟩:=h;have b2:=w.gB;have z:=(TH W W).alloc (aa _) (.cells #[.int .i64 ((3:Nat):Int),.int .i64 ((0:Nat):Int)] 3);have q:=O (w.ws.own hat);have H:=O a3;have L:=O w;have Hw:=O (sV hw z);have Hl:=O hl;have Hg:=O (hg.below z);have a1:=O hat;have Hn:=O hn;have l:=O z;have a8:=O hw.1;clear a3 w hw hl hg hat hn z
 go_enter func333,ntmps333
 go_wp2_with fail
 refine(sS ws [3,0] a _ n 2 c 2 _ Hw (N1 3 0) (by have:=a8.out;have:=Hn.out;omega) (by omega) Hl (by decide) Hg).mono ?_;rintro e o F
 cases hv:kF ws [3,0]with
 |none=>
  unfold mu at F;rw[hv]at F;obtain⟨rfl,i⟩:=F;have hb:iE B g N cc D ((jk r.x 6 ws).map fun y=>(⟨y,((6:Nat):Int),[]⟩:jL)) W iX o:=iE.bad (la (by rw[Av,hv];rfl)) (I l i) (cE (ab b2 hB));have M:=hb;clear hb hv i l Hw H L q;unfold iX at M⊢;have a6:=O M;clear M
  go_wp2_with fail
  exact⟨rfl,a6⟩
 |some zs=>
  have hz:=(qj _ _ _ hv);unfold mu at F;rw[hv]at F;obtain⟨⟨a2,c2,rfl,hs,b0⟩,i⟩:=F
  obtain⟨z0,t,rfl⟩:∃z0 t,zs=[z0,t]:=by
   have:zs.length=2:=by rw[hz.1,hz.2];rfl
   match zs,this with
   |[x,y],_=>exact⟨x,y,rfl⟩
  obtain⟨b,off,rfl,a5,R⟩:=hs.at (by show 0<2;omega)
  have b9:W.heap.size<b:=by have:=b0 b rfl;simp at this;omega
  have n0:o.cell? ⟨b,off,none⟩=some (.int .i64 z0):=R 0 (by show 0<2;omega);have n1:o.cell? ⟨b,off+1,none⟩=some (.int .i64 t):=R 1 (by show 1<2;omega);have c0:2<=c2:=hs.2.1;have X:=H.go (I l i);have hL:=L.go (I l i);have hr:((jk r.x 6 ws).map fun y=>(⟨y,((6:Nat):Int),[]⟩:jL))=some ⟨{r.x with ws:=r.x.ws++[z0,t]},6,[]⟩:=map_some (k:=6) (by rw[Av,hv];rfl);obtain⟨cg,fg⟩:=X.cell 6;have b3:=TK X;have b5:=hL.ws.1;have Hr:=O hr;have Hb:=O (I l i);have HA:=O X;have HL:=O hL
  have b8:B<=o.heap.size:=by have:=(I l i).size;omega
  clear hr X hL i hv hz R hs l Hw H L;obtain⟨fa,fn,fc⟩:=v
  change o.cell? ⟨g,6,none⟩=some (.slice fa fn fc)at cg
  change fn<=cc at b5
  go_upto_region 1 with fail
  refine kC (S:=fun x=>x=g\/x=b) 15 [(0,true),(1,true),(2,true),(3,true),(4,true),(5,true),(6,true),(7,true),(8,true),(9,true),(10,true),(11,true),(12,true),(13,false),(14,false)] (by kernel_rfl) (by kernel_rfl) ?_
  iterate 13
   refine kQ (v:=?_) rfl (fun _ _ _ h=>h) (by rfl) ?_ ?_;rotate_left
   .intro y hy
    have k1:=(hy.cell (p:=⟨g,6,none⟩) (Or.inl rfl)).trans cg;have k2:=(hy.cell (p:=⟨b,off,none⟩) (Or.inr rfl)).trans n0;have k3:=(hy.cell (p:=⟨b,off+1,none⟩) (Or.inr rfl)).trans n1;go_simp
    with_reducible rfl
   try simp only[V]
  refine iT rfl rfl (fun K P=>?_);go_simp;refine P _ _ (fun x hx=>iC (by obtain rfl|rfl:=hx;exact b3;exact a5)) ?_;clear P K
  try simp only[V]
  have d:Below o o (o.drew.alloc (.cells [Value.int .i64 z0,.int .i64 t].toArray 63)):=gY ((TH _ _).drew);have u:=HA.go d;have Q:=HL.go d;have j:=Q.ws.own a1;have a0:=ab a5 d.size
  have a9:B<=(o.drew.alloc (.cells [Value.int .i64 z0,.int .i64 t].toArray 63)).heap.size:=by have:=d.size;omega
  have C:=TK u;refine iT rfl rfl (fun K P=>?_);refine nR underlying33 Tryz.infoWaveQ rfl (by omega) (by omega) _ _ rfl B _ (.slice fa fn fc) fn o _ [.int .i64 z0,.int .i64 t] rfl j.row (TL o.drew _) rfl rfl (by simp[Value.oneCell']) (by omega) a9 ?_;intro g2 cap w3 E A b1;have b4:b≠g/\(Value.slice fa fn fc).ownBlock≠some b:=⟨by omega,fun e=>by have:=(gT q.row e).2;omega⟩;refine P _ _ (fun x hx=>A.kept x (by obtain rfl|rfl:=hx;exact C;exact a0) (by obtain rfl|rfl:=hx;exact(fun e=>by have:=(gT j.row e).1;omega);exact b4.2)) ?_;clear P K;have a4:=(A.kept g C (fun e=>by have:=(gT j.row e).1;omega)).trans u;obtain⟨b6,b7⟩:=jm.cell a4 6;have HA:=O u;have HL:=O Q;have Hb:=O (I Hb d);have T:=O E;have a7:=O A;clear u Q j d E A a4 cg fg n0 n1
  try simp only[V]
  refine nK rfl ?_
  go_wp2_with fail
  go_end0;exact IC Hr Hb HA HL T a7 b1 a1 hc hB
def SH{W' g x a f v s k m g2 n cap}(d:jm W' g x a f v s k m){c}(e:c=((W'.setCell ⟨g,7,none⟩ (.slice (J g2) n cap)).alloc (.map #[] 0)).setCell ⟨g,10,none⟩ (.map (some W'))):
 jm c g x a f v ⟨some ⟨g2,0,none⟩,n,cap⟩ k (.map (some W'))/\oC c W' []/\(∀b,b≠g->b<W'.heap.size->c.heap[b]? =W'.heap[b]?)/\Below g W' c:=by
 subst e;have hlt:=TK d;have h1:jm (W'.setCell ⟨g,7,none⟩ (.slice (J g2) n cap)) g x a f v ⟨some ⟨g2,0,none⟩,n,cap⟩ k m:=nJ d rfl
 have h:(W'.setCell ⟨g,7,none⟩ (.slice (J g2) n cap)).heap.size=W'.heap.size:=by simp
 have h2:jm ((W'.setCell ⟨g,7,none⟩ (.slice (J g2) n cap)).alloc (.map #[] 0)) g x a f v ⟨some ⟨g2,0,none⟩,n,cap⟩ k m:=(iC (by omega)).trans h1;refine⟨nJ h2 rfl,⟨#[],0,(iS (by omega)).trans (ku h),rfl⟩,fun b h3 i=>(iS h3).trans ((iC (by omega)).trans (iS h3)),?_⟩;exact kZ ((kZ (TH g W') (aa _)).alloc (by omega) _) (aa _)
def wF(z:Int):gW:=⟨z,0,0,0,0,0,0,0,0,0,0,0,0,⟨#[]⟩,0,0,0,0,0,0,0⟩
def N2{W' g x a f v s k m}(g2 n cap)(b:jm W' g x a f v s k m):((W'.setCell ⟨g,7,none⟩ (.slice (J g2) n cap)).alloc (.map #[] 0)).cell? ⟨g,10,none⟩=some m/\((W'.setCell ⟨g,7,none⟩ (.slice (J g2) n cap)).alloc (.map #[] 0)).frozen? ⟨g,10,none⟩=false:=by
 have hlt:=TK b;have h1:jm (W'.setCell ⟨g,7,none⟩ (.slice (J g2) n cap)) g x a f v ⟨some ⟨g2,0,none⟩,n,cap⟩ k m:=nJ b rfl;have h2:jm ((W'.setCell ⟨g,7,none⟩ (.slice (J g2) n cap)).alloc (.map #[] 0)) g x a f v ⟨some ⟨g2,0,none⟩,n,cap⟩ k m:=(iC (by simp;omega)).trans h1;exact jm.cell h2 10
def xq.go{α R k}(ok:kR k R){T B}{D:Nat->Prop}{W W'}{p:iJ}{l:List α}{css:List (List Value)}(h:xq R k T B D W p l css)(c:Below W W W'):xq R k T B D W' p l css:=
 ⟨kD h.row c,h.len,h.n,h.k,fun i x cs h1 h2=>ok.kept (h.rep i x cs h1 h2) (fun b a=>c.block b a.2.1) (fun b a=>⟨a.1,ab a.2.1 c.size,a.2.2⟩),h.inD⟩
def Aw(x v):jk x 7 [v]=(kP.findIdx? (· ==v)).map fun i=>{x with l:=x.l++[lJ (i+1)]}:=rfl
def qN{l:List (List UInt8)}{s i}(h:l.findIdx? (· ==s)=some i):i<l.length:=by
 rw[fm]at h;exact h.1
def DM{B g w cc}{D:Nat->Prop}{r W ws a n c N}(h:vM B g w cc D r W)(hw:ua W a n c ws W)(hat:r.at_<=7)(hc:cc<=100001)(hB:B<=W.heap.size)(hT:TW N W)(hN:N<=W.heap.size):
 Calls prog 334 #[U g,Z a n c] W (iE B g w cc D ((jk r.x 7 ws).map fun y=>⟨y,((7:Nat):Int),[]⟩) W):=by
 have c3:g<B:=by obtain⟨f,v,s,k,m,Q,L⟩:=h;exact L.gB
 obtain⟨ka,kn,kc,hk,a0⟩:=hT.kin;have a8:2<W.heap.size:=ab (ab (show 2<14 by decide) hT.glo) hN;have A:Below W W W.drew:=⟨rfl,rfl,rfl,aa _,fun _ _=>rfl⟩;have c6:=@run_makeMap prog;have b5:kn=4:=a0.1.symm;subst b5;have E:ua W.drew ka 4 kc kP N:=a0.kept (fun _ _=>rfl) (aa _);have H:=O (h.go A);have Hw:=O (sV hw A);have a7:=O hat;have P:=O A;have Hk:=O E;have X:W.drew.cell? (J 2)=some (.slice ka 4 kc):=hk;have a3:2<W.drew.heap.size:=a8;clear h hw hat a0 E hT A hk a8
 go_enter func334,ntmps334
 go_upto_region 0 with fail
 refine gS 4 [(0,true),(1,true),(2,false),(3,false)] (by kernel_rfl) (by kernel_rfl) ?_
 iterate 2
  refine gU (v:=?_) rfl (fun _ _ _ h=>h) (by rfl) ?_ ?_;rotate_left
  .intro y hy
   have k1:=(hy.cell (p:=J 2) a3).trans X;go_simp
   with_reducible rfl
  try simp only[V]
 refine gP rfl rfl (fun KK u=>?_);go_simp;refine(nF ws a n c _ W.drew Hw).mono ?_;rintro e w1 ⟨he,rfl⟩
 obtain ⟨x,rfl,rfl⟩|⟨b6,rfl⟩:=lF he
 .refine u _ _ (TH _ _) ?_
  clear u KK he
  try simp only[V]
  refine gP rfl rfl (fun KK u=>?_);go_simp;refine(Ar kP x ka 4 kc N W.drew Hk hN (by omega)).mono ?_;rintro e j ⟨rfl,d⟩;refine u _ _ d ?_;clear u KK
  try simp only[V]
  refine iu rfl ?_
  cases hi:kP.findIdx? (· ==x)with
  |none=>
   have S:iE B g w cc D ((jk r.x 7 [x]).map fun y=>(⟨y,((7:Nat):Int),[]⟩:jL)) W iX j:=iE.bad (la (by rw[Aw,hi];rfl)) (P.trans d) (by omega);have b:=S;clear S hi d X;unfold Lj;unfold iX at b;have M:=O b;clear b
   go_wp2_with fail
   refine(lm j).mono ?_;rintro e w3 ⟨rfl,rfl⟩;unfold iX
   go_wp2_with fail
   exact⟨rfl,M⟩
  |some i=>
   have c4:i<4:=qN hi;have hr:((jk r.x 7 [x]).map fun y=>(⟨y,((7:Nat):Int),[]⟩:jL))=some ⟨{r.x with l:=r.x.l++[lJ (i+1)]},7,[]⟩:=map_some (k:=7) (by rw[Aw,hi];rfl);obtain⟨f,v,s,k,m,Q,L⟩:=H.go d;have b7:=L.l.1;obtain⟨css,hO⟩:=L.l.own a7 (by omega);obtain⟨cg,fg⟩:=Q.cell 7;have c5:=TK Q
   have c2:B<=j.heap.size:=by have:=d.size;exact af hB this
   have Hr:=O hr;have HA:=O Q;have HL:=O L;have HO:=O hO;have Hb:=O (P.trans d);clear hr Q L hO d hi Hk H Hw X;obtain⟨sa,sn,sc⟩:=s
   change j.cell? ⟨g,7,none⟩=some (.slice sa sn sc)at cg
   change sn<=cc at b7
   unfold Lj
   go_wp2_with fail
   refine(kW j).mono ?_;rintro e w3 ⟨rfl,rfl⟩;have q:Below j j (j.alloc (.cells (gX (wF ((i:Int)+1)) none 0 0).toArray 70)):=(TH _ _).alloc (aa _) _;have R:=HA.go q;have a5:=O R;have b0:=O (HL.go q);have a4:=TK R;have t:=kD HO.row q;have C:=HO.inD
   have b3:B<=(j.alloc (.cells (gX (wF ((i:Int)+1)) none 0 0).toArray 70)).heap.size:=by have:=q.size;omega
   have F:=TL j (.cells (gX (wF ((i:Int)+1)) none 0 0).toArray 70);have a6:=O q;have a1:=O F;have o:=O t;have b8:=O C;clear q F t C R
   go_wp2_with(refine DL underlying34 Tryz.infoSurf3 rfl (by omega) (by omega) rfl _ _ rfl B _ (.slice sa sn sc) sn j _ (gX (wF ((i:Int)+1)) none 0 0) rfl o a1 rfl rfl (by simp[Value.oneCell',gX]) (by omega) b3 ?_;intro g2 cap w5 K T b4;have z:=(T.kept g a4 (fun e=>by have:=(gT o e).1;omega)).trans a5;obtain⟨b2,c1⟩:=jm.cell z 7;change w5.cell? ⟨g,7,none⟩=some (.slice sa sn sc)at b2;obtain⟨b9,c0⟩:=N2 g2 (sn+1) cap z;have a2:=O K;have b1:=O T;have a9:=O z;clear K T z cg fg)
   go_end0;obtain⟨q1,q2,q3,q4⟩:=SH (g2:=g2) (n:=sn+1) (cap:=cap) a9 rfl;exact Bp Hr (I Hb a6) a5 b0 (HO.go iD a6) a2 b1 b4 a7 hc hB q1 q2 (aa _) q3 q4
 .have S:iE B g w cc D ((jk r.x 7 ws).map fun y=>(⟨y,((7:Nat):Int),[]⟩:jL)) W iX W.drew:=iE.bad (la (oX (by omega) b6)) P (by omega)
  have Hb:=O S;clear S;have b:=Hb.out;unfold iX at b⊢;have M:=O b;clear b Hb;exact⟨rfl,M⟩
def IG(x v):jk x 8 [v]=some {x with cf:=x.cf++[⟨bs v,[]⟩]}:=rfl
def Tryz.infoConfQ:(prog.info? 75).map (fun i=>(i.zero,i.size,i.bytes))=some (some (.agg #[.string {data:=#[]},oN]),2,40):=by kernel_rfl
def FO{B g E cc}{D:Nat->Prop}{r W ws a n c}(h:vM B g E cc D r W)(hw:ua W a n c ws W)(hl:∀s∈ws,s.length<=100000)(hat:r.at_<=8)(hc:cc<=100001)(hB:B<=W.heap.size):
 Calls prog 335 #[U g,Z a n c] W (iE B g E cc D ((jk r.x 8 ws).map fun y=>⟨y,((8:Nat):Int),[]⟩) W):=by
 have l:Below W W W.drew:=⟨rfl,rfl,rfl,aa _,fun _ _=>rfl⟩;obtain⟨f,v,s,k,m,H,w⟩:=h.go l;have b3:=w.gB;have a9:=w.cf.1;have b2:=w.c1;obtain⟨css,hO⟩:=w.cf.own hat (by omega);obtain⟨P,fg⟩:=H.cell 8;have a7:=TK H;have b1:B<=W.drew.heap.size:=hB;have Hw:=O (sV hw l);have a1:=O hat;have M:=O l;have HA:=O H;have HL:=O w;have T:=O hO;have Hl:=O hl;clear h hw hat l H w hO hl;obtain⟨K,kn,L⟩:=k
 change W.drew.cell? ⟨g,8,none⟩=some (.slice K kn L)at P
 change kn<=cc at a9
 go_enter func335,ntmps335
 refine kC (S:=fun x=>x=g) 11 [(0,true),(1,true),(2,true),(3,true),(4,true),(5,true),(6,true),(7,false),(8,true),(9,false),(10,false)] (by kernel_rfl) (by kernel_rfl) ?_
 iterate 7
  refine kQ (v:=?_) rfl (fun _ _ _ h=>h) (by rfl) ?_ ?_;rotate_left
  .intro y z
   have k1:=(z.cell (p:=⟨g,8,none⟩) rfl).trans P;go_simp
   with_reducible rfl
  try simp only[V]
 refine iT rfl rfl (fun C d=>?_);go_simp;refine(nF ws a n c _ W.drew Hw).mono ?_;rintro e w1 ⟨he,rfl⟩
 obtain ⟨x,rfl,rfl⟩|⟨a8,rfl⟩:=lF he
 .refine d _ _ (gN.refl _ _) ?_
  clear d C he
  try simp only[V]
  iterate 1
   refine kQ (v:=?_) rfl (fun _ _ _ h=>h) (by rfl) ?_ ?_;rotate_left
   .intro y z
    skip;go_simp
    with_reducible rfl
   try simp only[V]
  have hx:=Hl x (by simp);have i:Below W.drew W.drew (W.drew.alloc (.cells [Value.string (bs x),oN].toArray 75)):=(TH _ _).alloc (aa _) _;have j:=HA.go i;have t:=TK j;have b:=kD T.row i
  have a5:B<=(W.drew.alloc (.cells [Value.string (bs x),oN].toArray 75)).heap.size:=by have:=i.size;omega
  refine iT rfl rfl (fun C d=>?_);go_simp;refine d _ _ (fun y z=>iC (by cases z;exact a7)) ?_;clear d C
  try simp only[V]
  refine iT rfl rfl (fun C d=>?_);refine nR underlying35 Tryz.infoConfQ rfl (by omega) (by omega) _ _ rfl B _ (.slice K kn L) kn W _ [.string (bs x),oN] rfl b (TL W.drew _) rfl rfl (by simp[Value.oneCell']) (by omega) a5 ?_;intro g2 cap w5 u q a6
  have o:(Value.slice K kn L).ownBlock≠some g:=fun e=>by have:=(gT b e).1;omega
  refine d _ _ (fun y z=>by cases z;exact q.kept g t o) ?_;clear d C;have N:=(q.kept g t o).trans j;obtain⟨a4,b0⟩:=jm.cell N 8
  change w5.cell? ⟨g,8,none⟩=some (.slice K kn L)at a4
  have Q:=O j;have R:=O (HL.go i);have X:=O (T.go ky i);have a0:=O (M.trans i);have F:=O u;have a3:=O q;have Hx:=O hx;clear j i u q b N P fg hx
  try simp only[V]
  refine nK rfl ?_
  go_wp2_with fail
  go_end0;exact DI (map_some (k:=8) (IG _ _)) (by rw[Tb];have:=Hx.out;omega) a0 Q R X F a3 a6 a1 hc hB
 .have hb:iE B g E cc D ((jk r.x 8 ws).map fun y=>(⟨y,((8:Nat):Int),[]⟩:jL)) W iX W.drew:=iE.bad (la (oX (by omega) a8)) M (by omega)
  have Hb:=O hb;clear hb;have A:=Hb.out;unfold iX at A⊢;have a2:=O A;clear A Hb;exact⟨rfl,a2⟩
def lX(r:jL)(a:List UInt8)(ws:List (List UInt8)):Option jL:=
 if a≠lG/\a∈r.seen then none else(ou r.x.l fun y=>Ad y (a::ws)).map fun l=>⟨{r.x with l:=l},7,if a=lG then r.seen else r.seen++[a]⟩
def qf{α}(l0 y)(f:α->Option α):ou (l0++[y]) f=(f y).map fun z=>l0++[z]:=by
 unfold ou;simp
def sW{r l0 y}(a:r.x.l=l0++[y])(ws):lX r lG ws=(kF ws [7,0,0]).map fun b=>⟨{r.x with l:=l0++[⟨y.s,y.zs++b⟩]},7,r.seen⟩:=by
 unfold lX;rw[aj (by simp),a,qf];unfold Ad;simp only[bX];cases kF ws [7,0,0] <;>rfl
def IH{r a ws}(h1:a≠lG)(h2:a∈r.seen):lX r a ws=none:=by
 unfold lX;rw[aq ⟨h1,h2⟩]
def LR{r a ws}(h1:a≠lG)(h2:ws.length≠1):lX r a ws=none:=by
 unfold lX;split
 .rfl
 .have b:∀y,Ad y (a::ws)=none:=fun y=>by
   unfold Ad;simp only[aj h1]
   match ws,h2 with
   |[],_=>rfl
   |[v],h=>simp at h
   |_::_::_,_=>rfl
  unfold ou
  cases r.x.l.getLast? with
  |none=>rfl
  |some y=>simp[b]
def nS{r:jL}{l0:List gM}{y:gM}(b:r.x.l=l0++[y]){a v:List UInt8}(h1:a≠lG)(h2:a ∉ r.seen):lX r a [v]=if a=lP then some ⟨{r.x with l:=l0++[⟨{y.s with glass:=bs v},y.zs⟩]},7,r.seen++[a]⟩else match Dv a with
 |none=>none
 |some d=>(lp v d).map fun n=>⟨{r.x with l:=l0++[⟨Ac y.s a n,y.zs⟩]},7,r.seen++[a]⟩:=by
 unfold lX;rw[aj (fun h=>h2 h.2),b,qf];unfold Ad;simp only[aj h1];split
 .rfl
 .cases Dv a with
  |none=>rfl
  |some d=>cases hv:lp v d<;>simp[hv]
def JQ(s):∀ks:List (List UInt8),rx (bs s) (ks.map bs)=decide (s∈ks)
 |[]=>rfl
 |k::ks=>by
  have a:=JQ s ks;unfold rx at a⊢;rw[aN,eN,a,NC]
  by_cases h:s=k
  .subst h;simp
  .have:(s==k)=false:=by rw[ak];exact h
   rw[this];simp[h]
structure DN (fid:FuncId) (off d:Nat) (fw:List UInt8):Prop where
 call:∀b k w,Calls prog fid #[.pointer (some ⟨b,k,none⟩)] w fun e w'=>e=.returned (.pointer (some ⟨b,k+off,none⟩))/\w=w'
 ent:∀args w,(callFunc fid args).run prog w=.ok (.enter fid args) w
 dig:Dv fw=some d
 lt:off<22
 d18:d<=18
 set:∀s a n c z,(gX s a n c).set off (.int .i64 z)=gX (Ac s fw z) a n c
 glass:∀s z,(Ac s fw z).glass=s.glass
def ug{a i}(h:kO.findIdx? (· ==a)=some i):rD a=some (i+1):=by unfold rD;rw[h];rfl
def yo{a}(h:kO.findIdx? (· ==a)=none):rD a=none:=by unfold rD;rw[h];rfl
def yP(p):oo p<=18:=by unfold oo;split;omega;split<;>omega
def N3(args w):(callFunc 308 args).run prog w=.ok (.enter 308 args) w:=by kernel_rfl
def N4(args w):(callFunc 309 args).run prog w=.ok (.enter 309 args) w:=by kernel_rfl
def N5(args w):(callFunc 310 args).run prog w=.ok (.enter 310 args) w:=by kernel_rfl
def N6(args w):(callFunc 311 args).run prog w=.ok (.enter 311 args) w:=by kernel_rfl
def N7(args w):(callFunc 312 args).run prog w=.ok (.enter 312 args) w:=by kernel_rfl
def N8(args w):(callFunc 313 args).run prog w=.ok (.enter 313 args) w:=by kernel_rfl
def N9(args w):(callFunc 314 args).run prog w=.ok (.enter 314 args) w:=by kernel_rfl
def Oc(args w):(callFunc 315 args).run prog w=.ok (.enter 315 args) w:=by kernel_rfl
def Od(args w):(callFunc 316 args).run prog w=.ok (.enter 316 args) w:=by kernel_rfl
def LS(args w):(callFunc 317 args).run prog w=.ok (.enter 317 args) w:=by kernel_rfl
def LT(args w):(callFunc 318 args).run prog w=.ok (.enter 318 args) w:=by kernel_rfl
def LU(args w):(callFunc 319 args).run prog w=.ok (.enter 319 args) w:=by kernel_rfl
def TY(args w):(callFunc 320 args).run prog w=.ok (.enter 320 args) w:=by kernel_rfl
def LW(args w):(callFunc 321 args).run prog w=.ok (.enter 321 args) w:=by kernel_rfl
def LX(args w):(callFunc 322 args).run prog w=.ok (.enter 322 args) w:=by kernel_rfl
def LY(args w):(callFunc 323 args).run prog w=.ok (.enter 323 args) w:=by kernel_rfl
def LZ(args w):(callFunc 324 args).run prog w=.ok (.enter 324 args) w:=by kernel_rfl
def Cw(i)(hi:i<17):∀args w,(callFunc (QB i) args).run prog w=.ok (.enter (QB i) args) w:=by
 match i,hi with
 |0,_=>exact N3
 |1,_=>exact N4
 |2,_=>exact N5
 |3,_=>exact N6
 |4,_=>exact N7
 |5,_=>exact N8
 |6,_=>exact N9
 |7,_=>exact Oc
 |8,_=>exact Od
 |9,_=>exact LS
 |10,_=>exact LT
 |11,_=>exact LU
 |12,_=>exact TY
 |13,_=>exact LW
 |14,_=>exact LX
 |15,_=>exact LY
 |16,_=>exact LZ
 |i+17,hi=>omega
def L0{e i}(h:kO.findIdx? (· ==e)=some i):DN (QB i) (Iv i) (oo (i+1)) e:=by
 have hi:i<17:=qN h;have d:=ug h;refine⟨fun b k w=>JN i hi b k w,Cw i hi,by unfold Dv;rw[d],?_,yP _,fun s a n c z=>?_,fun s z=>?_⟩
 .have:∀i,i<17->Iv i<22:=by decide
  exact this i hi
 .unfold Ac;rw[d]
  match i,hi with
  |0,_=>rfl
  |1,_=>rfl
  |2,_=>rfl
  |3,_=>rfl
  |4,_=>rfl
  |5,_=>rfl
  |6,_=>rfl
  |7,_=>rfl
  |8,_=>rfl
  |9,_=>rfl
  |10,_=>rfl
  |11,_=>rfl
  |12,_=>rfl
  |13,_=>rfl
  |14,_=>rfl
  |15,_=>rfl
  |16,_=>rfl
  |i+17,hi=>omega
 .unfold Ac;rw[d]
  match i,hi with
  |0,_=>rfl
  |1,_=>rfl
  |2,_=>rfl
  |3,_=>rfl
  |4,_=>rfl
  |5,_=>rfl
  |6,_=>rfl
  |7,_=>rfl
  |8,_=>rfl
  |9,_=>rfl
  |10,_=>rfl
  |11,_=>rfl
  |12,_=>rfl
  |13,_=>rfl
  |14,_=>rfl
  |15,_=>rfl
  |16,_=>rfl
  |i+17,hi=>omega
def Ax:DN 325 15 6 lB:=
 ⟨fun b k w=>NN b k w,fun args w=>by kernel_rfl,by decide,by omega,by omega,fun s a n c z=>rfl,fun s z=>rfl⟩
def yq:DN 326 11 0 kj:=
 ⟨fun b k w=>Ls b k w,fun args w=>by kernel_rfl,by decide,by omega,by omega,fun s a n c z=>rfl,fun s z=>rfl⟩
def L3{a}(h:kO.findIdx? (· ==a)=none)(h1:a≠lB)(h2:a≠kj):Dv a=none:=by
 unfold Dv;rw[yo h];simp only[aj h1,aj h2]
def my.cell{B}{D:Nat->Prop}{W c p m l seen l0 y css q b cap i}(h:my B D W c p m l seen l0 y css q b cap i){j}(t:j<22):W.cell? ⟨b,l0.length*22+j,none⟩=(gX y.s q.a q.n q.c)[j]? /\W.frozen? ⟨b,l0.length*22+j,none⟩=false:=by
 obtain ⟨e,_⟩|⟨r,g,o,e,u,f,v,w,x,k⟩:=h.row.2
 .cases e
 .cases e
  refine⟨?_,gD f _⟩;rw[gA f];have d:=ai (fun l=>l[l0.length*22+j]?) k;rw[cZ,aq (by omega),aY (by rw[h.flat];omega),h.flat,dR]at d;rw[<- d];simp
def qL.cell{B}{D:Nat->Prop}{W c p l l0 y css q b cap}(h:qL B D W c p l l0 y css q b cap){j}(o:j<2):W.cell? ⟨b,l0.length*2+j,none⟩=[Value.string y.nm,.slice q.a q.n q.c][j]? /\W.frozen? ⟨b,l0.length*2+j,none⟩=false:=by
 obtain ⟨e,_⟩|⟨m,g,k,e,r,f,s,t,u,i⟩:=h.row.2
 .cases e
 .cases e
  refine⟨?_,gD f _⟩;rw[gA f];have d:=ai (fun l=>l[l0.length*2+j]?) i;rw[cZ,aq (by omega),aY (by rw[h.flat];omega),h.flat,dR]at d;rw[<- d];simp
def Ay{W A c B}{v:List UInt8}{ws}(h:ua W (J A) (ws.length+1) c (v::ws) B):ua W (some ⟨A,1,none⟩) ws.length (c-1) ws B:=by
 obtain⟨_,h2,h3⟩:=h;refine⟨rfl,by omega,fun h0=>?_⟩;obtain⟨g,off,e,a,h5⟩:=h3 (by omega);cases e;refine⟨A,1,rfl,a,fun j x b=>?_⟩;have:=h5 (j+1) x (by simpa using b);rw[show(1:Nat)+j=0+(j+1)by omega];exact this
def sT.word{B}{D:Nat->Prop}{W T k p zs}(h:sT B D W T k p zs)(r:0<k){A s}(l:W.cell? (J A)=some (.string s)):p.v.ownBlock≠some A:=by
 intro e;obtain⟨a,n,c⟩:=p;have f:=h.pos;have d:=h.row
 cases a with
 |none=>cases e
 |some o=>
  have q:o.block=A:=by simpa[iJ.v,Value.ownBlock]using e
  have t:0<n:=bq fun h0=>by cases f h0
  rcases(mz d).2 with⟨i,_⟩|⟨g,cap,i,_,_,b⟩
  .cases i
  .cases i
   have m:=d.1;rw[aU]at m
   have h0:0<(zs.map (Value.int .i64)).length:=by rw[aU,m];exact dZ t r
   have:=b.cell (j:=0) h0;rw[<- q]at l;rw[l]at this;simp at this
def my.go{B}{D:Nat->Prop}{W W' c p m l seen l0 y css q a cap d}(h:my B D W c p m l seen l0 y css q a cap d)(e:Below W W W'):my B D W' c p m l seen l0 y css q a cap d:=h.keep (fun b _ f=>e.block b f) e.size
def qL.go{B}{D:Nat->Prop}{W W' c p l l0 y css q a cap}(h:qL B D W c p l l0 y css q a cap)(d:Below W W W'):qL B D W' c p l l0 y css q a cap:=h.keep (fun b _ e=>d.block b e) d.size
def mf{B g a c}{D:Nat->Prop}{d}{W i W':World}{e}(h:iE B g a c D d i e W')(f:Below W W i)(p:g<=W.heap.size):iE B g a c D d W e W':=by
 obtain⟨h1,h2,h3⟩:=h;have s:=f.size;refine⟨(f.mono p).trans h1,fun k r o=>(h2 k (by omega) o).trans (f.block k r),h3.imp ?_ id⟩;rintro⟨q,l,m,D',n,h5⟩;exact⟨q,l,m,D',fun b j=>(n b j).imp id (fun h=>by omega),h5⟩
def II{B g c f}{D:Nat->Prop}{d a W}(o:d=none)(n:∀b,b<a.heap.size->b≠f->W.heap[b]? =a.heap[b]?)(h:Below B a W)(i:D f)(m:g<=B):iE B g 7 c D d a iX W:=
 ⟨h.mono m,fun k j l=>n k j (fun e=>l (by rw[e];exact i)),Or.inr ⟨o,rfl⟩⟩
end Go.Proofs.YtgohdcccfkjooaaGreatDoor
