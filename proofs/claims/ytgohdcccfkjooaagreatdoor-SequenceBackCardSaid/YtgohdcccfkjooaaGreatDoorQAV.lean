import Derived.Test.YtgohdcccfkjooaaGreatDoorQAU
import Derived.LaidMore
import Derived.Stop.Joined
namespace Go.Proofs.YtgohdcccfkjooaaGreatDoor
set_option linter.all false
set_option maxRecDepth 100000
set_option maxHeartbeats 3200000
open Go.Proofs.Tryz Go.RowKit Go.ChangeShapes Go.WideShapes Go.ChangeAt Go.WideElems Go.Maps
def Tryz.infoLens:(prog.info? 37).map (·.size)=some 9:=by kernel_rfl
def ja{ops b e d w}{Q:Exit->Act->World->Prop}{g cs}(x f v s k)(h:w.heap[g]? =some (.cells cs 37 (0,0)))(i:cs.size=9)(j:e.guard=none)(y z)(m:e.op=.store 37 y z)(o:d.eval y=.pointer (J g))(p:d.eval z=.agg #[x.nm,x.dist,x.pupil,x.stop,x.prim,Z f.a f.n f.c,Z v.a v.n v.c,Z s.a s.n s.c,Z k.a k.n k.c])(l:∀w',hU w' g 37 x f v s k->w'=w.setCells g 0 (iw x f v s k)->wpList prog ops Q b (d.put e.dst undef) w'):wpList prog ops Q (e::b) d w:=
 wpList_store_mid j 37 y z m g 0 _ o p (tF h i) Tryz.infoLens (by simp[Value.oneCell']) (l _ (tE h i) rfl)
def hU.range{w g T x f v s k}(h:hU w g T x f v s k):w.rangeAt g 0 (iw x f v s k):=xK h
def it{ops b d e w}{Q:Exit->Act->World->Prop}{g T x f v s k}(h:hU w g T x f v s k)(i:d.guard=none)(y)(l:d.op=.load 37 y)(m:e.eval y=.pointer (J g))(j:wpList prog ops Q b (e.put d.dst (.agg #[x.nm,x.dist,x.pupil,x.stop,x.prim,Z f.a f.n f.c,Z v.a v.n v.c,Z s.a s.n s.c,Z k.a k.n k.c])) w):wpList prog ops Q (d::b) e w:=
 wpList_load_mid i 37 y l g 0 m (iw x f v s k) _ h.range underlying37 rfl Tryz.infoLens j
def vW{fn p u tmps w g x f v s k e}(h:fn.results=#[.cell p 37,.tmp u])(a:tmps.getD p undef=.pointer (J g))(c:tmps.getD u undef=e)(b:hU w g 37 x f v s k):
 (results fn tmps).run prog w=.ok (.tuple #[jG x f v s k,e]) w:=by
 rw[results_cell_tmp h,a,c];simp only[asAddr,cT,bU];rw[run_loadVar_row w g 37 37 _ (0,0) _ b underlying37 rfl Tryz.infoLens];rfl
def lz:gR:=⟨ik,0,0,0,0,[],[],[],[]⟩
def ij:iJ:=⟨none,0,0⟩

theorem vJ{w:World}{a v}(h:w.cell? a=some v):a=⟨a.block,a.off,none⟩∧a.block<w.heap.size:=by
 unfold World.cell? at h;split at h
 ·rename_i c _ _ hb
  split at h
  ·cases h
  ·rename_i hs
   refine ⟨?_,TK hb⟩;obtain ⟨b,o,s⟩:=a
   cases s with
   |none=>rfl
   |some s=>simp at hs
 ·cases h
theorem Qe:prog.globalNamed "monocle/surface.places" =some 11:=by kernel_rfl
theorem Qf:(prog.globals[11]?).map (·.type)=some 353:=by kernel_rfl
theorem Mv{P e}{v:Value}{a n c d}(f:P.underlying e=some (.slice d))(hf:v.formed P e=true)(b:v.cells.toList=[.slice a n c]):v= .slice a n c:=by
 cases v<;>simp_all [Value.formed,Value.cells]
theorem OV{P k}(b:P.underlying k=some (.int .i64)){v l}(h:keyOf P k v=some l):MapKept.IsKey (.int .i64) v:=by
 rw [keyOf_int b] at h;obtain ⟨d,a,h1,_⟩:=mapKey_isKey h;rw [b] at a;cases a;exact h1
theorem Gh{H}:∀{xs ys:List Int},(lits (H:=H) .i64 xs)=lits .i64 ys→xs=ys
 |[],[],_=>rfl
 |[],_::_,h=>by cases h
 |_::_,[],h=>by cases h
 |x::xs,y::ys,h=>by
  unfold lits at h;simp only [aN,ei,DataW.lit.injEq,Lit.int.injEq,true_and] at h;obtain ⟨rfl,h2⟩:=h;have:=Gh (H:=H) (xs:=xs) (ys:=ys) h2;rw [this]
theorem D2{a b w w'}(h:(Result.ok a w:Result Value)= .ok b w'):a=b:=by cases h;rfl
theorem Bt{W C}(h:laidMet prog (("monocle/surface.places",Rows.laid_monocle_surface_places)::C) W):jY W.heap.size W:=by
 obtain ⟨ps,⟨g0,t0,a5,f0,p0,q0,E,X,a0,R,_,_⟩,_,_⟩:=h;obtain rfl:=aE (Qe.symm.trans E);obtain rfl:=aE (Qf.symm.trans X)
 have zero:(zeroValue 162).run prog W= .ok (.slice none 0 0) W:=by kernel_rfl
 rcases WideElems.open_map underlying353 R with ⟨_,f⟩|⟨K,J,p,m,_,Q,t,_,F,f⟩
 ·cases f
 simp only [dK] at f
 have e:W.cell? ⟨11,0,none⟩=some (.map (some K)):=by
  have:=World.var?_cell E a0 0;rw [Array.eq_one_of_toList Q] at this;simpa using this
 have M:=(vJ e).2;refine ⟨K,e,M,TK t,J,p,t,?_⟩
 have d:∀k:Int,(Lit.int .i64 k).wf=true→ ∀zs:List Int,(Rows.laid_monocle_surface_places (H:=Unit)).atKey (.int .i64 k) .nil= .slice (lits .i64 zs) []→ ∃i a n c,Instr.findNow (.int .i64) (.int .i64 k) J.toList 0=some (some (i,.slice a n c))∧IR W.heap.size W 1 a n c zs:=by
  intro k a1 zs g;have o:=keyOf_int_mk (P:=prog) underlying3 a1
  rcases fit_look (w:=W) false (int_keyed underlying3) underlying353 zero t F o with ⟨_,_,hat⟩|⟨e0,y,z,S,A,s,hat,_⟩
  ·have:=hat .nil
   rw [← f.1,g] at this;cases this
  ·have r:=hat .nil
   rw [← f.1,g] at r
   rcases MapKept.findNow_spec (OV underlying3 o) J.toList 0 (fun x f=>by
    obtain ⟨l,hl⟩:=F.keys x f
    exact OV underlying3 hl) with ⟨_,U⟩|⟨j,e1,hf,_,a7⟩
   ·exact absurd S (U e0 z)
   ·have q:=tL underlying353 underlying3 t hf
    have hv:e1.val=e0.val:=by
     have:=q.symm.trans A;simp only [bC,de] at this;exact D2 this
    unfold elemAt at s;split at s
    ·rename_i hform
     rcases open_ints underlying162 underlying3 (by kernel_rfl) s with ⟨_,rfl⟩|⟨a,len,cap,xs,u,_,T,_,a2,rfl,b,_⟩
     ·cases r
     ·have B:=Mv underlying162 hform u
      simp only [DataW.slice.injEq] at r;have h1:=Gh r.1
      have h2:xs.drop len=[]:=by
       have:=r.2;unfold lits at this;exact List.map_eq_nil_iff.1 this.symm
      have a3:xs=zs:=by
       have:=cA len xs;rw [h2,bG] at this;exact this.symm.trans h1.symm
      subst a3
      have v:xs.length=len:=by
       have ha:xs.length≤len:=by
        rw [List.drop_eq_nil_iff] at h2;exact h2
       have a6:len≤xs.length:=by rw [a2];split<;>omega
       omega
      refine ⟨0+j,some a,len,cap,by rw [hf,hv,B],by rw [v,dn],T,fun a4=>?_⟩;have D:=b 0 (by omega)
      have N:a.add 0=a:=by simp [Addr.add]
      rw [N] at D;obtain ⟨L,hlt⟩:=vJ D;refine ⟨a.block,a.off,by rw [← L],hlt,fun j hj=>?_⟩;have:=b j (by omega);rw [L,fC] at this;exact this
    ·cases s
 intro k h1 h4
 have hk:k=1∨k=2∨k=3∨k=4:=by omega
 rcases hk with rfl|rfl|rfl|rfl
 ·exact d 1 rfl [1,2,5,6,7,8,10] rfl
 ·exact d 2 rfl [1,2,3,4,10] rfl
 ·exact d 3 rfl [11,12,13,14,15] rfl
 ·exact d 4 rfl [1,10] rfl
def zu(l a n c w)(h:RR jE 22 (fun b=>b<w.heap.size) w a n c l)(hn:n<=1000000):
 Calls prog 147 #[Z a n c] w (fun e w'=>∃v,e=.returned v/\oJ w w' v l/\Below w w w'):=by
 have H:=O h;clear h;have K:=H.1
 go_enter func147,ntmps147
 go_wp2_with fail
 go_loopw [3,4] (fun v iv wr=>∃k:Nat,k<=n/\iv=.int .i64 (k:Int)/\oJ w wr v (l.take k)/\Below w w wr) (fun _ iv _=>n-(intOf iv).toNat)
 case atStart=>exact⟨0,by omega,rfl,oJ.nil _ _,TH _ _⟩
 case round=>
  obtain⟨k,hk,rfl,ho,f⟩:=hrel;have L:=O ho;have t:=O f;clear ho f
  by_cases b4:k<n
  .obtain⟨b,off,x,cs,rfl,hlt,hx,⟨a2,j,c2,rfl,hz,b5,a3,a4⟩,hr⟩:=(H.go iD t).at b4
   have Hl:(l.take k).length=k:=by rw[bn,K];omega
   have h1:=Y.new wr x.s a2 j c2;have B:=gY (o:=.cells (⟨x.s,a2,j,c2⟩:jt) 70) (TH wr wr);have Hx:=O hx;have Hz:=O (hz.ir (fun _ h=>h));have b0:=O a3;have Hr:=O hr;have b1:=O a4;have y:=O h1;have d:=O B;have HL:=O Hl;clear hx hz a3 hr a4 h1 B Hl
   go_upto_region 6 with(first
    |(refine lw Hr rfl (.tmp 14) rfl rfl ?_)
    |(refine lC x.s a2 j c2 _ rfl rfl (.tmp 5) (.tmp 15) rfl rfl rfl ?_))
   refine gI (fun D=>Y D wr x.s a2 j c2/\Below wr wr D) ⟨y,d⟩ ?_;clear y d;rintro A ⟨h1,B⟩;have N:=h1.lt;have Q:=h1.cells.2.2.2.2.2.2.2.2.2.2.2.2.2.2.2.2.2.2.2.2.2;have y:=O h1;have d:=O B;clear h1 B
   go_upto_region 7 with(first
    |(refine je underlying68 Tryz.infoFilm3 rfl (by omega) (by omega) rfl (.tmp 16) (.tmp 18) rfl A (.slice (J (A.heap.size)) 0 0) 0 [] rfl (World.ownsRow_made A #[] 0 (aa _) (by simp) rfl) (fun b=>b<A.heap.size) a2 j c2 x.zs rfl (IR.irp ((Hz.go d).below ((TH _ _).alloc (aa _) _) (aa _)) (fun _ h=>h)) b0 (by omega) (by simp) ?_;intro v' R z u;obtain⟨a',c',rfl,a1,hi⟩:=lc z;have hi:=jN.own (S:=fun b=>A.heap.size<=b/\b<R.heap.size) z (fun g h1 h2=>⟨h1,h2⟩);have F:Below A A R:=((TH _ _).alloc (aa _) _).grown u (by simp) (by intro k hk;simp[Value.ownBlock]at hk;omega);clear z u Q;have fz:=Y.free (Y.go y F N) 21;have Q:=(Y.cells (Y.go y F N)).2.2.2.2.2.2.2.2.2.2.2.2.2.2.2.2.2.2.2.2.2;have Hi:=O hi;have b8:=O a1;have m:=O F;clear hi a1 F))
   have a5:jN (fun b=>A.heap.size<=b/\b<R.heap.size) R a' j c' x.zs:=by have k:=Hi.out;rw[aV]at k;exact k
   refine gI (fun D=>Y D wr x.s a' j c'/\Below wr wr D/\jN (fun b=>A.heap.size<=b/\b<D.heap.size) D a' j c' x.zs) ⟨Y.coat (Y.go y m N) a' j c',(I d m).setCell (p:=⟨wr.heap.size,21,none⟩) (aa _) _,a5.kept ((gK wr [_] 21 R).mono ?_) ?_⟩ ?_
   .intro b f;have:=f.1;omega
   .intro b f;simp;exact f
   clear y m a5 Hi Q fz;rintro C ⟨h1,M,hi⟩;have b9:=h1.lt;have hy:rL (fun b=>w.heap.size<=b/\b<C.heap.size/\u3.ownBlock≠some b) C ⟨x,wr.heap.size,C.heap.size⟩ (gX x.s a' j c'):=⟨a',j,c',rfl,hi.kept (gN.refl _ _) (fun b f=>⟨⟨by have:=f.1;have:=t.size;have:=d.size;omega,f.2,L.r.fresh (by have:=f.1;have:=d.size;omega)⟩,⟨by show wr.heap.size<=b;have:=f.1;have:=d.size;omega,f.2⟩⟩),b5,b1⟩;obtain⟨lq,P,i,X,a8⟩:=L
   have a6:lq.length=k:=by rw[<- mD,P];exact HL
   have b2:=O P;have Hq:=O (i.go jX M);have a9:=O X;have E:=O a8;have W:=O a6;clear P i X a8 a6;have y:=O h1;have m:=O M;have Hy:=O hy;clear h1 M hi hy
   go_wp2_with(first
    |(refine gO y rfl (.tmp 5) rfl rfl ?_)
    |(refine kA jX underlying34 Tryz.infoSurf3 rfl (by omega) (by omega) rfl (.tmp 21) (.tmp 23) rfl w C u3 lq ⟨x,wr.heap.size,C.heap.size⟩ (gX x.s a' j c') k W rfl Hq rfl rfl Hy (by rw[W];omega) (af t.size m.size) ?_;intro g3 b7 w8 a7 a0 _ _;have b3:=O a7;have T:=O a0;clear a7 a0))
   go_roundw
   case rel=>
    have b6:=(T _ _ (aa _) (TH w C)).size;have c0:=d.size;have c3:=m.size;have c1:=t.size
    exact⟨k+1,by omega,by go_num,⟨_,by rw[Ek,b2,mn Hx];rfl,b3,a9.snoc (fun q i=>(E q i).2.2),(fun q i=>by
     obtain i|i:=bj.1 i
     .exact⟨(E q i).1,(E q i).2.1,by have:=(E q i).2.2;omega⟩
     .obtain rfl:=aK.1 i;exact⟨by show w.heap.size<=wr.heap.size;omega,by show wr.heap.size<=C.heap.size;omega,by show C.heap.size<=_;exact b6⟩)⟩,T _ _ (aa _) (I t m)⟩
   case measure=>simp[intOf];omega
  .obtain rfl:k=n:=by omega
   go_wp2;go_ret;have:=L.out;rw[<- K,bf]at this;exact⟨_,rfl,this,t⟩
abbrev ry(x:gR)(f v s k:iJ):Value:=.agg #[x.nm,x.dist,x.pupil,x.stop,x.prim,Z f.a f.n f.c,Z v.a v.n v.c,Z s.a s.n s.c,Z k.a k.n k.c]
def qX(x f v s k)(w:World)(hf:IR w w 2 f.a f.n f.c x.fs)(hn:f.n<=1000000):
 Calls prog 109 #[ry x f v s k] w (iZ w (.bool (jx x.dist x.fs f.n))):=by
 have Hf:=O hf;clear hf;obtain⟨fa,n,fc⟩:=f;simp only at*
 show Calls _ _ _ w (iZ w (.bool (jx x.dist x.fs n)))
 have hm:∃o:Int,jj x.dist=o/\0<=o/\o<=1000000000/\((x.dist=0/\o=1000000)\/((x.dist==0)=false/\o=1000000000)):=by
  by_cases h0:x.dist=0
  .exact⟨1000000,by unfold jj;rw[aq h0],by omega,by omega,Or.inl ⟨h0,rfl⟩⟩
  .exact⟨1000000000,by unfold jj;rw[aj h0],by omega,by omega,Or.inr ⟨by simpa using h0,rfl⟩⟩
 obtain⟨o,b6,b9,c0,b7⟩:=hm;have b0:=O b6;clear b6;have b5:hU (w.alloc (.cells (iw x ⟨fa,n,fc⟩ v s k).toArray 37)) w 37 x ⟨fa,n,fc⟩ v s k:=TL w _;have b4:=(TH w w).alloc (aa _) (.cells (iw x ⟨fa,n,fc⟩ v s k).toArray 37);have a1:=O b5;have a0:=O b4;clear b5 b4;unfold ry
 obtain ⟨hd,rfl⟩|⟨hd,rfl⟩:=b7
 .have Hd:=O hd;clear hd
  go_enter func109,ntmps109
  go_upto_region 1 with fail
  refine gI (fun wx=>hU wx w 37 x ⟨fa,n,fc⟩ v s k/\Below w w wx) ⟨a1,a0⟩ ?_;clear a1 a0;rintro w1 ⟨E,g⟩;have hl:=E.lt;obtain⟨_,c1,_,_,_,c5,_⟩:=E.cells;have T:=O E;have a4:=O g;clear E g;rw[Hd]at c1
  go_wp2_with fail
  go_loopw [4] (fun r wr=>∃i:Nat,i<=n/\r=.int .i64 (i:Int)/\(List.range i).all (iV (jj x.dist) x.fs)=true/\Below w1 w1 wr) (fun r _=>n-(intOf r).toNat)
  case atStart=>exact⟨0,by omega,rfl,rfl,TH _ _⟩
  case round=>
   obtain⟨i,hi,rfl,ho,g⟩:=hrel;have Ho:=O ho;have z:=O g;have h:=O (I a4 g);clear ho g c1 c5;obtain⟨_,_,_,_,_,c5,_⟩:=(T.go z).cells;have hgl:w.heap.size<wr.heap.size:=ab hl z.size
   by_cases C:i<n
   .obtain⟨b1,off,rfl,hlt,X,x1⟩:=(Hf.go h).at2 C
    have B:=Hf.go h;have b8:=B.2.1;have K:=O B;clear B
    have m:∀b,iV (jj x.dist) x.fs i=b->(b=true->(List.range (i+1)).all (iV (jj x.dist) x.fs)=true)/\(b=false->jx x.dist x.fs n=false):=by
     intro b g;refine⟨fun e=>jl Ho (g.trans e),fun e=>?_⟩;unfold jx;rw[jK C (g.trans e)];rfl
    have d:=O m;clear m
    have S:tc (jj x.dist) x.fs i=(bt (x.fs.getD (i*2) 0) (-1000000) 1000000&&bt (x.fs.getD (i*2+1) 0) (-1000000) 1000000):=by unfold tc;rw[b0]
    have u:=O S;clear S
    have P:∀j,mV x.fs i j=decide (x.fs.getD (i*2) 0=x.fs.getD (j*2) 0/\x.fs.getD (i*2+1) 0=x.fs.getD (j*2+1) 0):=fun j=>rfl
    generalize hp0:x.fs.getD (i*2) 0=p0 at*;generalize hp1:x.fs.getD (i*2+1) 0=p1 at*;have a5:=O P;have a2:=O hp0;have a3:=O hp1;clear P hp0 hp1;cases hq0:bt p0 (-1000000) 1000000<;>cases hq1:bt p1 (-1000000) 1000000
    all_goals
     have A:=O hq0;have W:=O hq1;clear hq0 hq1
     go_wp2_with(first
      |((with_reducible refine(ix p0 _ _ _).mono ?_);rintro e w2 ⟨q,g⟩;rw[A]at q;subst q;clear c5;have c5:=(T.go (I z g)).cells.2.2.2.2.2.1;replace x1:=(g.cell (p:=⟨b1,off+i*2+1,none⟩) hlt).trans x1;have t:=O g;clear g)
      |((with_reducible refine(ix p1 _ _ _).mono ?_);rintro e w3 ⟨q,g⟩;rw[W]at q;subst q;have F:=O g;clear g))
    .go_ret
     refine⟨?_,I h t⟩;rw[(d false (by unfold iV;rw[u,A];rfl)).2 rfl];rfl
    .go_ret
     refine⟨?_,I h t⟩;rw[(d false (by unfold iV;rw[u,A];rfl)).2 rfl];rfl
    .go_ret
     refine⟨?_,I h (I t F)⟩;rw[(d false (by unfold iV;rw[u,A,W];rfl)).2 rfl];rfl
    .obtain⟨wo,rfl⟩:∃wo:World,wo=w3:=⟨_,rfl⟩
     have D:=O (I t F);clear X x1 c5
     go_loopw [5] (fun r wq=>∃j:Nat,j<=i/\r=.int .i64 (j:Int)/\(List.range j).any (mV x.fs i)=false/\Below wr wr wq) (fun r _=>i-(intOf r).toNat)
     case atStart=>exact⟨0,by omega,rfl,rfl,D⟩
     case round=>
      obtain⟨j,hj,rfl,N,M⟩:=hrel;have H:=O N;have l:=O M;clear N M
      by_cases a7:j<i
      .obtain⟨b3,o3,e3,a9,X,x1⟩:=(K.go l).at2 C
       cases e3;obtain⟨b2,o2,e2,a8,z0,z1⟩:=(K.go l).at2 (k:=j) (by omega);cases e2;obtain⟨_,_,_,_,_,c5,_⟩:=(T.go (I z l)).cells;have Q:=a5 j;rw[a2]at X;rw[a3]at x1;generalize x.fs.getD (j*2) 0=r0 at*;generalize x.fs.getD (j*2+1) 0=r1 at*;have L:=O Q;clear Q
       have y:(p0=r0/\p1=r1)\/ ¬(p0=r0/\p1=r1)/\(((p0==r0)=false)\/(p0=r0/\(p1==r1)=false)):=by
        simp only[ak];omega
       obtain ⟨rfl,rfl⟩|⟨R,hw⟩:=y
       .go_wp2_with fail
        go_quiet (fail)
        go_wp2_with fail
        go_ret;refine⟨?_,I h (gV l _)⟩;rw[(d false (by unfold iV;rw[lM a7 (L.trans (by simp))];simp)).2 rfl];rfl
       .have a6:=O R;clear R
        obtain hw|⟨rfl,hw⟩:=hw
        all_goals
         go_wp2_with fail
         go_quiet (fail)
         go_wp2_with fail
         go_roundw
         case rel=>exact⟨j+1,by omega,by go_num,(lL H).trans (L.trans (by simpa using a6.out)),gV l _⟩
         case measure=>simp[intOf];omega
      .obtain rfl:j=i:=by omega
       go_wp2
       go_roundw
       case rel=>exact⟨j+1,by omega,by go_num,(d true (by unfold iV;rw[u,A,W,H];rfl)).1 rfl,I z l⟩
       case measure=>simp[intOf];omega
   .obtain rfl:i=n:=by omega
    go_wp2_with((with_reducible refine(ix _ _ _ _).mono ?_);rintro e w2 ⟨q,g⟩;subst q)
    go_ret;exact⟨by unfold jx;rw[Ho];rfl,I h g⟩
 .skip
  go_enter func109,ntmps109
  go_upto_region 1 with fail
  refine gI (fun wx=>hU wx w 37 x ⟨fa,n,fc⟩ v s k/\Below w w wx) ⟨a1,a0⟩ ?_;clear a1 a0;rintro w1 ⟨E,g⟩;have hl:=E.lt;obtain⟨_,c1,_,_,_,c5,_⟩:=E.cells;have T:=O E;have a4:=O g;clear E g;skip
  go_wp2_with fail
  go_loopw [4] (fun r wr=>∃i:Nat,i<=n/\r=.int .i64 (i:Int)/\(List.range i).all (iV (jj x.dist) x.fs)=true/\Below w1 w1 wr) (fun r _=>n-(intOf r).toNat)
  case atStart=>exact⟨0,by omega,rfl,rfl,TH _ _⟩
  case round=>
   obtain⟨i,hi,rfl,ho,g⟩:=hrel;have Ho:=O ho;have z:=O g;have h:=O (I a4 g);clear ho g c1 c5;obtain⟨_,_,_,_,_,c5,_⟩:=(T.go z).cells;have hgl:w.heap.size<wr.heap.size:=ab hl z.size
   by_cases C:i<n
   .obtain⟨b1,off,rfl,hlt,X,x1⟩:=(Hf.go h).at2 C
    have B:=Hf.go h;have b8:=B.2.1;have K:=O B;clear B
    have m:∀b,iV (jj x.dist) x.fs i=b->(b=true->(List.range (i+1)).all (iV (jj x.dist) x.fs)=true)/\(b=false->jx x.dist x.fs n=false):=by
     intro b g;refine⟨fun e=>jl Ho (g.trans e),fun e=>?_⟩;unfold jx;rw[jK C (g.trans e)];rfl
    have d:=O m;clear m
    have S:tc (jj x.dist) x.fs i=(bt (x.fs.getD (i*2) 0) (-1000000000) 1000000000&&bt (x.fs.getD (i*2+1) 0) (-1000000000) 1000000000):=by unfold tc;rw[b0]
    have u:=O S;clear S
    have P:∀j,mV x.fs i j=decide (x.fs.getD (i*2) 0=x.fs.getD (j*2) 0/\x.fs.getD (i*2+1) 0=x.fs.getD (j*2+1) 0):=fun j=>rfl
    generalize hp0:x.fs.getD (i*2) 0=p0 at*;generalize hp1:x.fs.getD (i*2+1) 0=p1 at*;have a5:=O P;have a2:=O hp0;have a3:=O hp1;clear P hp0 hp1;cases hq0:bt p0 (-1000000000) 1000000000<;>cases hq1:bt p1 (-1000000000) 1000000000
    all_goals
     have A:=O hq0;have W:=O hq1;clear hq0 hq1
     go_wp2_with(first
      |((with_reducible refine(ix p0 _ _ _).mono ?_);rintro e w2 ⟨q,g⟩;rw[A]at q;subst q;clear c5;have c5:=(T.go (I z g)).cells.2.2.2.2.2.1;replace x1:=(g.cell (p:=⟨b1,off+i*2+1,none⟩) hlt).trans x1;have t:=O g;clear g)
      |((with_reducible refine(ix p1 _ _ _).mono ?_);rintro e w3 ⟨q,g⟩;rw[W]at q;subst q;have F:=O g;clear g))
    .go_ret
     refine⟨?_,I h t⟩;rw[(d false (by unfold iV;rw[u,A];rfl)).2 rfl];rfl
    .go_ret
     refine⟨?_,I h t⟩;rw[(d false (by unfold iV;rw[u,A];rfl)).2 rfl];rfl
    .go_ret
     refine⟨?_,I h (I t F)⟩;rw[(d false (by unfold iV;rw[u,A,W];rfl)).2 rfl];rfl
    .obtain⟨wo,rfl⟩:∃wo:World,wo=w3:=⟨_,rfl⟩
     have D:=O (I t F);clear X x1 c5
     go_loopw [5] (fun r wq=>∃j:Nat,j<=i/\r=.int .i64 (j:Int)/\(List.range j).any (mV x.fs i)=false/\Below wr wr wq) (fun r _=>i-(intOf r).toNat)
     case atStart=>exact⟨0,by omega,rfl,rfl,D⟩
     case round=>
      obtain⟨j,hj,rfl,N,M⟩:=hrel;have H:=O N;have l:=O M;clear N M
      by_cases a7:j<i
      .obtain⟨b3,o3,e3,a9,X,x1⟩:=(K.go l).at2 C
       cases e3;obtain⟨b2,o2,e2,a8,z0,z1⟩:=(K.go l).at2 (k:=j) (by omega);cases e2;obtain⟨_,_,_,_,_,c5,_⟩:=(T.go (I z l)).cells;have Q:=a5 j;rw[a2]at X;rw[a3]at x1;generalize x.fs.getD (j*2) 0=r0 at*;generalize x.fs.getD (j*2+1) 0=r1 at*;have L:=O Q;clear Q
       have y:(p0=r0/\p1=r1)\/ ¬(p0=r0/\p1=r1)/\(((p0==r0)=false)\/(p0=r0/\(p1==r1)=false)):=by
        simp only[ak];omega
       obtain ⟨rfl,rfl⟩|⟨R,hw⟩:=y
       .go_wp2_with fail
        go_quiet (fail)
        go_wp2_with fail
        go_ret;refine⟨?_,I h (gV l _)⟩;rw[(d false (by unfold iV;rw[lM a7 (L.trans (by simp))];simp)).2 rfl];rfl
       .have a6:=O R;clear R
        obtain hw|⟨rfl,hw⟩:=hw
        all_goals
         go_wp2_with fail
         go_quiet (fail)
         go_wp2_with fail
         go_roundw
         case rel=>exact⟨j+1,by omega,by go_num,(lL H).trans (L.trans (by simpa using a6.out)),gV l _⟩
         case measure=>simp[intOf];omega
      .obtain rfl:j=i:=by omega
       go_wp2
       go_roundw
       case rel=>exact⟨j+1,by omega,by go_num,(d true (by unfold iV;rw[u,A,W,H];rfl)).1 rfl,I z l⟩
       case measure=>simp[intOf];omega
   .obtain rfl:i=n:=by omega
    go_wp2_with((with_reducible refine(ix _ _ _ _).mono ?_);rintro e w2 ⟨q,g⟩;subst q)
    go_ret;exact⟨by unfold jx;rw[Ho];rfl,I h g⟩
end Go.Proofs.YtgohdcccfkjooaaGreatDoor
