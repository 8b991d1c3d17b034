import Derived.Test.YtgohdcccfkjooaaGreatDoorQBJ
namespace Go.Proofs.YtgohdcccfkjooaaGreatDoor
set_option linter.all false
set_option maxRecDepth 100000
set_option maxHeartbeats 6400000
open Go.Proofs.Tryz Go.RowKit
def DQ(x:gR):List UInt8:=if x.dist=0 then lQ else iz x.dist 6
def G(x:gR):Nat->List UInt8
 |0=>iF [xZ,kb x.nm]
 |1=>iF [sO,DQ x]
 |2=>iF [vA,iz x.pupil 6]
 |3=>iF [Aa,iz x.stop 0]
 |4=>iF [qJ,iz x.prim 0]
 |5=>((List.range (x.fs.length/2)).map (nE x.fs)).flatten
 |6=>((List.range (x.ws.length/2)).map (qK x.ws)).flatten
 |7=>(x.l.map oq).flatten
 |8=>(x.cf.map ot).flatten
 |_=>iF [Fp]
def yr(x):nO x=G x 0++G x 1++G x 2++G x 3++G x 4++G x 5++G x 6++G x 7++G x 8++G x 9:=rfl
structure yQ (B:Nat) (x:gR) (f v s k:iJ) (l:List UInt8) (w W:World):Prop where
 l9:hU W w 37 x f v s k
 b:Lib.IsBuilder 108 5 B B (Lib.byteCells l) W
 be:Below w w W
 lo:w.heap.size<B
 hi:B<W.heap.size
def yQ.next{B x f v s k l l' w W d e}(h:yQ B x f v s k l w W)(a:Below W W d)(h2:L7 B B l' d (.returned (.tuple #[])) e):yQ B x f v s k l' w e:=by
 obtain⟨_,h3,c,_⟩:=h2;have j:=a.size;have i:=c.size;have b:=h.lo;have g:=h.hi;exact⟨(c.block _ b).trans ((a.block _ h.l9.lt).trans h.l9),h3,(h.be.trans (a.mono (by omega))).trans (c.mono (by omega)),b,by omega⟩
def yQ.go{B x f v s k l w W c}(h:yQ B x f v s k l w W)(a:Below W W c):yQ B x f v s k l w c:=by
 have g:=a.size;have e:=h.hi;have d:=h.lo;exact⟨(a.block _ h.l9.lt).trans h.l9,iq h.b a,h.be.trans (a.mono (by omega)),d,by omega⟩
def Cz{α:Type}(f:α->List UInt8)(l:List α){k y}(h:l[k]? =some y):(((l.take k).map f).flatten).length+(f y).length<=((l.map f).flatten).length:=by
 have a:l=l.take k++y::l.drop (k+1):=by
  have:=yO h;rw[<- this,cA]
 have e:((l.map f).flatten).length=(((l.take k).map f).flatten).length+((f y).length+(((l.drop (k+1)).map f).flatten).length):=by
  conv=>lhs;rw[a]
  simp
 omega
def CA{α:Type}(f:α->List UInt8)(l:List α){k y}(h:l[k]? =some y):((l.take (k+1)).map f).flatten=((l.take k).map f).flatten++f y:=by
 rw[mn h,aT,cG];simp
def wI(x:gR):Value:=.tuple #[.string (bs (if iI x=true then nO x else[])),.int .i64 (if iI x=true then 0 else 120)]
def CB(x f v s k w)(hx:iP (fun b=>b<w.heap.size) w x f v s k)(hg:GW w)(hP:jY w w)(hT:TW w w)(u:iI x=true->(nO x).length<=1000000):
 Calls prog 11 #[jG x f v s k] w (iZ w (wI x)):=by
 obtain⟨F,fn,fc⟩:=f;obtain⟨H,t,E⟩:=v;obtain⟨sa,sn,D⟩:=s;obtain⟨K,kn,C⟩:=k;have c:=(TH w w).alloc (aa _) (.cells (iw x ⟨F,fn,fc⟩ ⟨H,t,E⟩ ⟨sa,sn,D⟩ ⟨K,kn,C⟩).toArray 37);have f3:hU (w.alloc (.cells (iw x ⟨F,fn,fc⟩ ⟨H,t,E⟩ ⟨sa,sn,D⟩ ⟨K,kn,C⟩).toArray 37)) w 37 x ⟨F,fn,fc⟩ ⟨H,t,E⟩ ⟨sa,sn,D⟩ ⟨K,kn,C⟩:=TL w _;have Hx:=O hx;have Hg:=O hg;have HP:=O hP;have HT:=O hT;have e4:=O u;have b1:=O c;have e5:=O f3;clear hx hg hP hT u c f3;unfold jG
 go_enter func11,ntmps11
 go_upto_region 1 with fail
 refine gI (fun wx=>hU wx w 37 x ⟨F,fn,fc⟩ ⟨H,t,E⟩ ⟨sa,sn,D⟩ ⟨K,kn,C⟩/\Below w w wx) ⟨e5,b1⟩ ?_;clear e5 b1;rintro w1 ⟨h9,i8⟩;have H9:=O h9;have c9:=O i8;have m4:=h9.lt;clear h9 i8;have h7:=zw x ⟨F,fn,fc⟩ ⟨H,t,E⟩ ⟨sa,sn,D⟩ ⟨K,kn,C⟩ w1 (Hx.go c9) ((HP.below c9).mono c9.size);unfold jG at h7;have h4:=O h7;clear h7
 cases hv:iI x with
 |false=>
  have hr:wI x=.tuple #[.string {data:=#[]},.int .i64 120]:=by unfold wI;rw[hv];rfl
  have he:err (iI x) 120=.int .i64 120:=by rw[hv];rfl
  have Hr:=O hr;have He:=O he;clear hr he hv
  go_wp2_with(first
   |(refine it H9 rfl (.tmp 1) rfl rfl ?_)
   |(refine h4.mono ?_;rintro e d ⟨rfl,d6⟩;rw[He];have d0:=O d6;clear d6))
  go_ret2;exact⟨by rw[Hr];rfl,I c9 d0⟩
 |true=>
  have hr:wI x=.tuple #[.string (bs (nO x)),oZ]:=by unfold wI;rw[hv];rfl
  have he:err (iI x) 120=.int .i64 0:=by rw[hv];rfl
  have f5:=uH hv;have hl:=e4 hv
  have f6:(G x 0).length+(G x 1).length+(G x 2).length+(G x 3).length+(G x 4).length+(G x 5).length+(G x 6).length+(G x 7).length+(G x 8).length+(G x 9).length<=1000000:=by
   rw[yr]at hl;simp only[al]at hl;omega
  have Hr:=O hr;have He:=O he;have M:=O f5;have B:=O f6;clear hr he f5 hl f6 hv e4
  go_upto_region 4 with(first
   |(refine it H9 rfl (.tmp 1) rfl rfl ?_)
   |(refine h4.mono ?_;rintro e d ⟨rfl,d6⟩;rw[He];have d0:=O d6;clear d6))
  have hw:yQ d x ⟨F,fn,fc⟩ ⟨H,t,E⟩ ⟨sa,sn,D⟩ ⟨K,kn,C⟩ [] w (d.alloc (.cells #[.pointer none,oN] 108)):=by
   have i5:=I c9 d0;have hs:=d0.size;refine⟨((TH d d).alloc (aa _) _|>.block _ (by omega)).trans ((d0.block _ m4).trans H9),Or.inl ⟨aa _,oN,TL d _,World.ownsRow_nil _ _ _ _,by intro e;cases e⟩,gY i5,by omega,by simp⟩
  have Hw:=O hw;clear hw
  go_upto_region 5 with fail
  refine gI (fun wx=>yQ d x ⟨F,fn,fc⟩ ⟨H,t,E⟩ ⟨sa,sn,D⟩ ⟨K,kn,C⟩ [] w wx) Hw ?_;clear Hw H9 d0 c9 h4 HP He;rintro w3 e3;have d5:=O e3;clear e3;obtain⟨q,c8⟩:∃q,kb x.nm=q:=⟨_,rfl⟩
  have b6:x.nm=bs q:=by rw[<- c8,qO]
  have l6:w3.cell? (J (w.heap.size))=some (.string (bs q)):=by rw[<- b6];exact gA d5.l9 0
  have j9:G x 0=iF [xZ,q]:=by show iF [xZ,kb x.nm]=_;rw[c8]
  have g3:=O j9;clear j9 c8 b6
  go_wp2_with fail
  have c:Below w3 w3 (w3.alloc (.cells (ji [xZ,q]).toArray 9)):=(TH _ _).alloc (aa _) _;clear l6;refine(kL [xZ,q] w3 2 d d ([]) _ (TL w3 _) (by simp) (by simp) (by have:=B.out;have:=ai List.length g3;(try simp only[al,cI]);omega) (iq d5.b c) (by have:=d5.hi;have:=(c).size;omega)).mono ?_;rintro P w4 h2;obtain rfl:=jz h2;have a:=d5.next c h2;rw[<- g3]at a;have b2:=O (show yQ d x ⟨F,fn,fc⟩ ⟨H,t,E⟩ ⟨sa,sn,D⟩ ⟨K,kn,C⟩ (G x 0) w w4 from a);clear h2 a d5 g3;clear c;have l7:w4.cell? ⟨w.heap.size,1,none⟩=some (.int .i64 x.dist):=gA b2.l9 1;have X:=M.dist
  go_upto_if 32 with fail
  go_cut [6] (fun v6 wx=>v6=.string (bs (DQ x))/\yQ d x ⟨F,fn,fc⟩ ⟨H,t,E⟩ ⟨sa,sn,D⟩ ⟨K,kn,C⟩ (G x 0) w wx)
  case first=>
   by_cases f2:x.dist=0
   .have ho:DQ x=lQ:=by unfold DQ;rw[aq f2]
    have m3:¬(0:Int) <x.dist:=by omega
    have Ho:=O ho;clear ho f2
    go_wp2_with fail
    go_meet;exact⟨by rw[Ho];rfl,b2⟩
   .have ho:DQ x=iz x.dist 6:=by unfold DQ;rw[aj f2]
    have m3:(0:Int) <x.dist:=by omega
    have Ho:=O ho;clear ho f2
    go_wp2_with(refine(js x.dist 6 w4 (by omega) (by omega) (by omega) (Hg.of b2.be HT.glo)).mono ?_;rintro P wa ⟨rfl,r⟩;have Q:=O r;clear r)
    go_meet;exact⟨by rw[Ho],b2.go Q⟩
  case rest=>
   obtain⟨rfl,e3⟩:=hcut;have a7:=O e3;clear e3 l7 X b2;have d7:G x 1=iF [sO,DQ x]:=rfl;have g4:=O d7;clear d7
   go_wp2_with fail
   have c:Below wc wc (wc.alloc (.cells (ji [sO,DQ x]).toArray 9)):=(TH _ _).alloc (aa _) _;refine(kL [sO,DQ x] wc 2 d d (G x 0) _ (TL wc _) (by simp) (by simp) (by have:=B.out;have:=ai List.length g4;(try simp only[al,cI]);omega) (iq a7.b c) (by have:=a7.hi;have:=(c).size;omega)).mono ?_;rintro P w5 h2;obtain rfl:=jz h2;have a:=a7.next c h2;rw[<- g4]at a;have a8:=O (show yQ d x ⟨F,fn,fc⟩ ⟨H,t,E⟩ ⟨sa,sn,D⟩ ⟨K,kn,C⟩ (G x 0++G x 1) w w5 from a);clear h2 a a7 g4;clear c;have l8:w5.cell? ⟨w.heap.size,2,none⟩=some (.int .i64 x.pupil):=gA a8.l9 2;have d8:G x 2=iF [vA,iz x.pupil 6]:=rfl;have g5:=O d8;clear d8;have X:=M.pupil
   go_wp2_with(refine(js x.pupil 6 w5 (by omega) (by omega) (by omega) (Hg.of a8.be HT.glo)).mono ?_;rintro P wa ⟨rfl,r⟩;have Q:=O r;clear r)
   have c:Below w5 w5 (wa.alloc (.cells (ji [vA,iz x.pupil 6]).toArray 9)):=Q.alloc Q.size _;clear l8 X;refine(kL [vA,iz x.pupil 6] wa 2 d d (G x 0++G x 1) _ (TL wa _) (by simp) (by simp) (by have:=B.out;have:=ai List.length g5;(try simp only[al,cI]);omega) (iq a8.b c) (by have:=a8.hi;have:=(c).size;omega)).mono ?_;rintro P w6 h2;obtain rfl:=jz h2;have a:=a8.next c h2;rw[<- g5]at a;have a9:=O (show yQ d x ⟨F,fn,fc⟩ ⟨H,t,E⟩ ⟨sa,sn,D⟩ ⟨K,kn,C⟩ (G x 0++G x 1++G x 2) w w6 from a);clear h2 a a8 g5;clear c Q;have m0:w6.cell? ⟨w.heap.size,3,none⟩=some (.int .i64 x.stop):=gA a9.l9 3;have k0:G x 3=iF [Aa,iz x.stop 0]:=rfl;have g6:=O k0;clear k0;have X:=M.stop
   go_wp2_with(refine(js x.stop 0 w6 (by omega) (by omega) (by omega) (Hg.of a9.be HT.glo)).mono ?_;rintro P wa ⟨rfl,r⟩;have Q:=O r;clear r)
   have c:Below w6 w6 (wa.alloc (.cells (ji [Aa,iz x.stop 0]).toArray 9)):=Q.alloc Q.size _;clear m0 X;refine(kL [Aa,iz x.stop 0] wa 2 d d (G x 0++G x 1++G x 2) _ (TL wa _) (by simp) (by simp) (by have:=B.out;have:=ai List.length g6;(try simp only[al,cI]);omega) (iq a9.b c) (by have:=a9.hi;have:=(c).size;omega)).mono ?_;rintro P w7 h2;obtain rfl:=jz h2;have a:=a9.next c h2;rw[<- g6]at a;have b0:=O (show yQ d x ⟨F,fn,fc⟩ ⟨H,t,E⟩ ⟨sa,sn,D⟩ ⟨K,kn,C⟩ (G x 0++G x 1++G x 2++G x 3) w w7 from a);clear h2 a a9 g6;clear c Q;have m1:w7.cell? ⟨w.heap.size,4,none⟩=some (.int .i64 x.prim):=gA b0.l9 4;have k5:G x 4=iF [qJ,iz x.prim 0]:=rfl;have g7:=O k5;clear k5;have X:=M.prim
   go_wp2_with(refine(js x.prim 0 w7 (by omega) (by omega) (by omega) (Hg.of b0.be HT.glo)).mono ?_;rintro P wa ⟨rfl,r⟩;have Q:=O r;clear r)
   have c:Below w7 w7 (wa.alloc (.cells (ji [qJ,iz x.prim 0]).toArray 9)):=Q.alloc Q.size _;clear m1 X;refine(kL [qJ,iz x.prim 0] wa 2 d d (G x 0++G x 1++G x 2++G x 3) _ (TL wa _) (by simp) (by simp) (by have:=B.out;have:=ai List.length g7;(try simp only[al,cI]);omega) (iq b0.b c) (by have:=b0.hi;have:=(c).size;omega)).mono ?_;rintro P w8 h2;obtain rfl:=jz h2;have a:=b0.next c h2;rw[<- g7]at a;have e6:=O (show yQ d x ⟨F,fn,fc⟩ ⟨H,t,E⟩ ⟨sa,sn,D⟩ ⟨K,kn,C⟩ (G x 0++G x 1++G x 2++G x 3++G x 4) w w8 from a);clear h2 a b0 g7;clear c Q;have cl:w8.cell? ⟨w.heap.size,5,none⟩=some (.slice F fn fc):=gA e6.l9 5;have d3:x.fs.length=fn*2:=Hx.fs.1
   have a5:x.fs.length/2=fn:=by omega
   have j7:fn<=fc:=Hx.fs.2.1;clear d3;have j6:fn<=1000000:=Hx.fn;have a1:=O a5;clear a5
   go_wp2_with fail
   go_loopw [8,61] (fun v8 W wr=>∃j:Nat,j<=fn/\W=.int .i64 (j:Int)/\yQ d x ⟨F,fn,fc⟩ ⟨H,t,E⟩ ⟨sa,sn,D⟩ ⟨K,kn,C⟩ (G x 0++G x 1++G x 2++G x 3++G x 4++((List.range j).map (nE x.fs)).flatten) w wr) (fun _ W _=>fn-(intOf W).toNat)
   case atStart=>exact⟨0,aA _,rfl,by simpa using e6.out⟩
   case round=>
    obtain⟨j,hj,rfl,o⟩:=hrel;have g:=O o;clear o cl
    by_cases b4:j<fn
    .obtain⟨b,off,rfl,m2,z0,z1⟩:=((Hx.fs.ir (N:=w.heap.size) (fun _ h=>h)).below g.be (aa _)).at2 b4
     have X:=M.fs j (by have:=a1.out;omega);have c3:nE x.fs j=iF [vB,iz (x.fs.getD (j*2) 0) 6,iz (x.fs.getD (j*2+1) 0) 6]:=rfl;have R:=rT (nE x.fs) (k:=j) (n:=fn) b4;have b8:=O c3;have d4:=O R;clear c3 R;generalize x.fs.getD (j*2) 0=q0 at*;generalize x.fs.getD (j*2+1) 0=q1 at*
     go_wp2_with fail
     have b5:=TL wr (.cells #[q0,q1] 112);have c:Below wr wr (wr.alloc (.cells #[q0,q1] 112)):=(TH _ _).alloc (aa _) _;have e0:=gA b5 0;have e1:=gA b5 1;have c5:=TK b5;have b1:=O c;clear b5 c z0 z1
     go_upto_region 16 with fail
     have c4:GW wr:=Hg.of g.be HT.glo;have b9:=O c4;clear c4;refine gS 8 [(0,true),(1,true),(2,true),(4,true),(5,true),(3,false),(6,false),(7,false)] (by kernel_rfl) (by kernel_rfl) ?_
     iterate 5
      refine gU (v:=?_) rfl (fun _ _ _ h=>h) (by rfl) ?_ ?_;rotate_left
      .intro y T
       have k1:=(T.cell (p:=J (wr.heap.size)) c5).trans e0;have k2:=(T.cell (p:=⟨wr.heap.size,1,none⟩) c5).trans e1;go_simp
       with_reducible rfl
      try simp only[V]
     clear e0 e1;refine gP rfl rfl (fun KK m=>?_);go_simp;refine(js q0 6 _ (by omega) (by omega) (by omega) (b9.below b1.drew)).mono ?_;rintro P wa ⟨rfl,r⟩;refine m _ _ r ?_;clear m KK;have a3:=b1.drew.trans (r.mono b1.drew.size)
     try simp only[V]
     refine gP rfl rfl (fun KK m=>?_);go_simp;refine(js q1 6 wa (by omega) (by omega) (by omega) (b9.below a3)).mono ?_;rintro P wb ⟨rfl,a4⟩;refine m _ _ a4 ?_;clear m KK;have z:=I a3 a4
     try simp only[V]
     refine gP rfl rfl (fun KK m=>?_);go_simp;refine m _ _ ((TH _ _).alloc (aa _) _) ?_;clear m KK
     try simp only[V]
     refine iu rfl ?_;have c1:Below wr wr (wb.alloc (.cells (ji [vB,iz q0 6,iz q1 6]).toArray 9)):=z.alloc z.size _
     have u:(G x 0++G x 1++G x 2++G x 3++G x 4++((List.range j).map (nE x.fs)).flatten).length+(iF [vB,iz q0 6,iz q1 6]).length<=1000000:=by
      have h8:(G x 5).length=(((List.range fn).map (nE x.fs)).flatten).length:=by show(((List.range (x.fs.length/2)).map (nE x.fs)).flatten).length=_;rw[a1]
      have h9:=d4.out;have f0:=B.out;rw[b8]at h9;simp only[al];omega
     have a0:=O c1;clear c1 a3 z r a4
     go_wp2_with fail
     refine(kL [vB,iz q0 6,iz q1 6] wb 3 d d (G x 0++G x 1++G x 2++G x 3++G x 4++((List.range j).map (nE x.fs)).flatten) _ (TL wb _) (by simp) (by simp) u (iq g.b a0) (af (cE g.hi) a0.size)).mono ?_;rintro P w9 h2;obtain rfl:=jz h2;have a:=g.next a0 h2;rw[<- b8,aC,<- qk]at a;have A:=O a;clear a h2
     go_wp2_with fail
     go_roundw
     case rel=>exact⟨j+1,by omega,by go_num,A⟩
     case measure=>simp[intOf];omega
    .obtain rfl:fn=j:=by omega
     have o:=g.out
     have e:G x 5=((List.range fn).map (nE x.fs)).flatten:=by show((List.range (x.fs.length/2)).map (nE x.fs)).flatten=_;rw[a1]
     have e7:=O (show yQ d x ⟨F,fn,fc⟩ ⟨H,t,E⟩ ⟨sa,sn,D⟩ ⟨K,kn,C⟩ (G x 0++G x 1++G x 2++G x 3++G x 4++G x 5) w wr by rw[e];exact o);clear e;clear o g;have cl:wr.cell? ⟨w.heap.size,6,none⟩=some (.slice H t E):=gA e7.l9 6;have d3:x.ws.length=t*2:=Hx.ws.1
     have a5:x.ws.length/2=t:=by omega
     have j7:t<=E:=Hx.ws.2.1;clear d3;have j6:t<=1000000:=Hx.wn;have a1:=O a5;clear a5
     go_wp2_with fail
     go_loopw [10,78] (fun v8 W wr=>∃j:Nat,j<=t/\W=.int .i64 (j:Int)/\yQ d x ⟨F,fn,fc⟩ ⟨H,t,E⟩ ⟨sa,sn,D⟩ ⟨K,kn,C⟩ (G x 0++G x 1++G x 2++G x 3++G x 4++G x 5++((List.range j).map (qK x.ws)).flatten) w wr) (fun _ W _=>t-(intOf W).toNat)
     case atStart=>exact⟨0,aA _,rfl,by simpa using e7.out⟩
     case round=>
      obtain⟨j,hj,rfl,o⟩:=hrel;have g:=O o;clear o cl
      by_cases b4:j<t
      .obtain⟨b,off,rfl,m2,z0,z1⟩:=((Hx.ws.ir (N:=w.heap.size) (fun _ h=>h)).below g.be (aa _)).at2 b4
       have X:=M.ws j (by have:=a1.out;omega);have c3:qK x.ws j=iF [Ab,iz (x.ws.getD (j*2) 0) 3,iz (x.ws.getD (j*2+1) 0) 0]:=rfl;have R:=rT (qK x.ws) (k:=j) (n:=t) b4;have b8:=O c3;have d4:=O R;clear c3 R;generalize x.ws.getD (j*2) 0=q0 at*;generalize x.ws.getD (j*2+1) 0=q1 at*
       go_wp2_with fail
       have b5:=TL wr (.cells #[q0,q1] 63);have c:Below wr wr (wr.alloc (.cells #[q0,q1] 63)):=(TH _ _).alloc (aa _) _;have e0:=gA b5 0;have e1:=gA b5 1;have c5:=TK b5;have b1:=O c;clear b5 c z0 z1
       go_upto_region 21 with fail
       have c4:GW wr:=Hg.of g.be HT.glo;have b9:=O c4;clear c4;refine gS 8 [(0,true),(1,true),(2,true),(4,true),(5,true),(3,false),(6,false),(7,false)] (by kernel_rfl) (by kernel_rfl) ?_
       iterate 5
        refine gU (v:=?_) rfl (fun _ _ _ h=>h) (by rfl) ?_ ?_;rotate_left
        .intro y T
         have k1:=(T.cell (p:=J (wr.heap.size)) c5).trans e0;have k2:=(T.cell (p:=⟨wr.heap.size,1,none⟩) c5).trans e1;go_simp
         with_reducible rfl
        try simp only[V]
       clear e0 e1;refine gP rfl rfl (fun KK m=>?_);go_simp;refine(js q0 3 _ (by omega) (by omega) (by omega) (b9.below b1.drew)).mono ?_;rintro P wa ⟨rfl,r⟩;refine m _ _ r ?_;clear m KK;have a3:=b1.drew.trans (r.mono b1.drew.size)
       try simp only[V]
       refine gP rfl rfl (fun KK m=>?_);go_simp;refine(js q1 0 wa (by omega) (by omega) (by omega) (b9.below a3)).mono ?_;rintro P wb ⟨rfl,a4⟩;refine m _ _ a4 ?_;clear m KK;have z:=I a3 a4
       try simp only[V]
       refine gP rfl rfl (fun KK m=>?_);go_simp;refine m _ _ ((TH _ _).alloc (aa _) _) ?_;clear m KK
       try simp only[V]
       refine iu rfl ?_;have c1:Below wr wr (wb.alloc (.cells (ji [Ab,iz q0 3,iz q1 0]).toArray 9)):=z.alloc z.size _
       have u:(G x 0++G x 1++G x 2++G x 3++G x 4++G x 5++((List.range j).map (qK x.ws)).flatten).length+(iF [Ab,iz q0 3,iz q1 0]).length<=1000000:=by
        have h8:(G x 6).length=(((List.range t).map (qK x.ws)).flatten).length:=by show(((List.range (x.ws.length/2)).map (qK x.ws)).flatten).length=_;rw[a1]
        have h9:=d4.out;have f0:=B.out;rw[b8]at h9;simp only[al];omega
       have a0:=O c1;clear c1 a3 z r a4
       go_wp2_with fail
       refine(kL [Ab,iz q0 3,iz q1 0] wb 3 d d (G x 0++G x 1++G x 2++G x 3++G x 4++G x 5++((List.range j).map (qK x.ws)).flatten) _ (TL wb _) (by simp) (by simp) u (iq g.b a0) (af (cE g.hi) a0.size)).mono ?_;rintro P w9 h2;obtain rfl:=jz h2;have a:=g.next a0 h2;rw[<- b8,aC,<- qk]at a;have A:=O a;clear a h2
       go_wp2_with fail
       go_roundw
       case rel=>exact⟨j+1,by omega,by go_num,A⟩
       case measure=>simp[intOf];omega
      .obtain rfl:t=j:=by omega
       have o:=g.out
       have e:G x 6=((List.range t).map (qK x.ws)).flatten:=by show((List.range (x.ws.length/2)).map (qK x.ws)).flatten=_;rw[a1]
       have e8:=O (show yQ d x ⟨F,fn,fc⟩ ⟨H,t,E⟩ ⟨sa,sn,D⟩ ⟨K,kn,C⟩ (G x 0++G x 1++G x 2++G x 3++G x 4++G x 5++G x 6) w wr by rw[e];exact o);clear e;clear o g;have cl:wr.cell? ⟨w.heap.size,7,none⟩=some (.slice sa sn D):=gA e8.l9 7;have a5:x.l.length=sn:=Hx.l.1;have j7:sn<=D:=Hx.l.2.1;have j6:sn<=1000000:=Hx.sn;have a1:=O a5;clear a5
       go_wp2_with fail
       go_loopw [12,95] (fun v8 W wr=>∃j:Nat,j<=sn/\W=.int .i64 (j:Int)/\yQ d x ⟨F,fn,fc⟩ ⟨H,t,E⟩ ⟨sa,sn,D⟩ ⟨K,kn,C⟩ (G x 0++G x 1++G x 2++G x 3++G x 4++G x 5++G x 6++((x.l.take j).map oq).flatten) w wr) (fun _ W _=>sn-(intOf W).toNat)
       case atStart=>exact⟨0,aA _,rfl,by simpa using e8.out⟩
       case round=>
        obtain⟨j,hj,rfl,o⟩:=hrel;have g:=O o;clear o cl
        by_cases b4:j<sn
        .obtain⟨b,off,y,cs,k7,hlt,T,⟨a2,L,c2,rfl,hz,j5,h6,i2⟩,hr⟩:=Hx.l.at b4
         simp only at k7;subst k7;have k6:=jb (S:=fun b=>b<w.heap.size) hr (gE g.be) hlt;have j8:=M.l y (aL T);have R:=Cz oq x.l T
         have u:(G x 0++G x 1++G x 2++G x 3++G x 4++G x 5++G x 6++((x.l.take j).map oq).flatten).length+(oq y).length<=1000000:=by
          have h8:(G x 7).length=((x.l.map oq).flatten).length:=rfl;have f0:=B.out;simp only[al];omega
         have Hr:=O k6;have l3:=O j8;have Hy:=O T;have Hz:=O (hz.ir (N:=w.heap.size) (fun _ h=>h));have a6:=O u;clear hr k6 j8 T hz R u h6 i2
         go_wp2_with(first
          |(refine lw Hr rfl (.tmp 97) rfl rfl ?_)
          |(refine lC y.s a2 L c2 _ rfl rfl (.tmp 12) (.tmp 98) rfl rfl rfl ?_)
          |(refine gO (Y.new _ y.s a2 L c2) rfl (.tmp 12) rfl rfl ?_))
         have c:Below wr wr (wr.alloc (.cells (⟨y.s,a2,L,c2⟩:jt) 70)):=(TH _ _).alloc (aa _) _;have c6:=g.go c;refine(DP y a2 L c2 d d w (G x 0++G x 1++G x 2++G x 3++G x 4++G x 5++G x 6++((x.l.take j).map oq).flatten) _ l3 ((Hz.below c6.be (aa _)).mono (cE c6.lo)) j5 c6.b (cE c6.hi) a6 (Hg.of c6.be HT.glo) (HT.below c6.be) (cE c6.lo)).mono ?_;rintro P w9 h2;obtain rfl:=jz h2;have a:=g.next c h2;rw[aC,<- CA oq x.l Hy]at a;have A:=O a;clear a h2 c6 c
         go_wp2_with fail
         go_roundw
         case rel=>exact⟨j+1,by omega,by go_num,A⟩
         case measure=>simp[intOf];omega
        .obtain rfl:sn=j:=by omega
         have o:=g.out;rw[aM (by rw[a1];exact aa _)]at o;have e9:=O (show yQ d x ⟨F,fn,fc⟩ ⟨H,t,E⟩ ⟨sa,sn,D⟩ ⟨K,kn,C⟩ (G x 0++G x 1++G x 2++G x 3++G x 4++G x 5++G x 6++G x 7) w wr from o);clear o g;have cl:wr.cell? ⟨w.heap.size,8,none⟩=some (.slice K kn C):=gA e9.l9 8;have a5:x.cf.length=kn:=Hx.cf.1;have m8:kn<=C:=Hx.cf.2.1;have n5:kn<=1000000:=Hx.kn;have a1:=O a5;clear a5
         go_wp2_with fail
         go_loopw [14,16,17,106] (fun v8 m5 m6 W wr=>∃j:Nat,j<=kn/\W=.int .i64 (j:Int)/\yQ d x ⟨F,fn,fc⟩ ⟨H,t,E⟩ ⟨sa,sn,D⟩ ⟨K,kn,C⟩ (G x 0++G x 1++G x 2++G x 3++G x 4++G x 5++G x 6++G x 7++((x.cf.take j).map ot).flatten) w wr) (fun _ _ _ W _=>kn-(intOf W).toNat)
         case atStart=>exact⟨0,aA _,rfl,by simpa using e9.out⟩
         case round=>
          obtain⟨j,hj,rfl,o⟩:=hrel;have g:=O o;clear o cl
          by_cases b4:j<kn
          .obtain⟨b,off,y,cs,j3,hlt,T,⟨a2,L,c2,rfl,hz,j5,h6,i2⟩,hr⟩:=Hx.cf.at b4
           simp only at j3;subst j3;obtain⟨q,c8⟩:∃q,kb y.nm=q:=⟨_,rfl⟩
           have b6:y.nm=bs q:=by rw[<- c8,qO]
           have r0:wr.cell? ⟨b,off+j*2,none⟩=some (.string (bs q)):=by rw[<- b6];exact(g.be.cell (p:=⟨b,off+j*2,none⟩) hlt).trans (hr 0 _ rfl)
           have r1:wr.cell? ⟨b,off+j*2+1,none⟩=some (.slice a2 L c2):=(g.be.cell (p:=⟨b,off+j*2+1,none⟩) hlt).trans (hr 1 _ rfl)
           have i0:y.zs.length/3=L:=by have h1:y.zs.length=L*3:=hz.1;omega
           have m9:L<=c2:=hz.2.1;have X:=M.cf y (aL T);have R:=Cz ot x.cf T
           have i1:ot y=iF [mc,q]++((List.range L).map (mK y.zs)).flatten:=by
            show iF [mc,kb y.nm]++((List.range (y.zs.length/3)).map (mK y.zs)).flatten=_
            rw[c8,i0]
           have u:(G x 0++G x 1++G x 2++G x 3++G x 4++G x 5++G x 6++G x 7++((x.cf.take j).map ot).flatten).length+(iF [mc,q]).length+(((List.range L).map (mK y.zs)).flatten).length<=1000000:=by
            have h8:(G x 8).length=((x.cf.map ot).flatten).length:=rfl;have f0:=B.out;rw[i1,al]at R;simp only[al];omega
           have l2:=O i1;have Hy:=O T;have Hz:=O (hz.ir (N:=w.heap.size) (fun _ h=>h));have a6:=O u;have l4:=O X;have l1:=O i0;clear hr T hz R u h6 i2 i1 X c8 b6 i0
           go_wp2_with fail
           have d7:=TL wr (.cells #[.string (bs q),Z a2 L c2] 75);have c:Below wr wr ((wr.alloc (.cells #[.string (bs q),Z a2 L c2] 75)).alloc (.cells (ji [mc,q]).toArray 9)):=((TH _ _).alloc (aa _) _).alloc (by simp) _;have d8:((wr.alloc (.cells #[.string (bs q),Z a2 L c2] 75)).alloc (.cells (ji [mc,q]).toArray 9)).heap[wr.heap.size]? =some (.cells #[.string (bs q),Z a2 L c2] 75 (0,0)):=(iC (by simp)).trans d7;refine(kL [mc,q] (wr+1) 2 d d (G x 0++G x 1++G x 2++G x 3++G x 4++G x 5++G x 6++G x 7++((x.cf.take j).map ot).flatten) _ (ku (by simp)) (by simp) (by simp) (by have:=a6.out;omega) (iq g.b c) (af (cE g.hi) c.size)).mono ?_;rintro P w9 h2;obtain rfl:=jz h2;have a:=g.next c h2;have n4:=g.hi;have d9:w9.heap[wr.heap.size]? =some (.cells #[.string (bs q),Z a2 L c2] 75 (0,0)):=h2.2.2.2 _ _ _ _ d8 (by decide) (by omega);have q1:w9.cell? ⟨wr.heap.size,1,none⟩=some (.slice a2 L c2):=gA d9 1;have l5:=O a;clear a h2 d7 d8 d9 c r0 r1
           go_wp2_with fail
           go_loopw [16,17,118] (fun m5 m6 W wi=>∃i:Nat,i<=L/\W=.int .i64 (i:Int)/\yQ d x ⟨F,fn,fc⟩ ⟨H,t,E⟩ ⟨sa,sn,D⟩ ⟨some ⟨b,off,none⟩,kn,C⟩ (G x 0++G x 1++G x 2++G x 3++G x 4++G x 5++G x 6++G x 7++((x.cf.take j).map ot).flatten++iF [mc,q]++((List.range i).map (mK y.zs)).flatten) w wi) (fun _ _ W _=>L-(intOf W).toNat)
           case atStart=>exact⟨0,aA _,rfl,by simpa using l5.out⟩
           case round=>
            obtain⟨i,hi,rfl,k8⟩:=hrel;have c7:=O k8;clear k8 q1
            by_cases j2:i<L
            .obtain⟨b3,n3,i6,m7,z0,z1,z2⟩:=(Hz.below c7.be (aa _)).at3 j2
             subst i6;obtain⟨g0,g1,g2⟩:=l4 i (by have:=l1.out;omega);obtain⟨pi,i3⟩:∃pi:Nat,y.zs.getD (i*3+1) 0=(pi:Int)+1:=⟨(y.zs.getD (i*3+1) 0-1).toNat,by omega⟩
             have f9:pi<17:=by omega
             have c3:mK y.zs i=iF [lj,iz (y.zs.getD (i*3) 0) 0,kO.getD pi [],iz (y.zs.getD (i*3+2) 0) (oo (pi+1))]:=by
              unfold mK km;rw[i3,show((pi:Int)+1).toNat=pi+1 by omega,cY]
             have R:=rT (mK y.zs) (k:=i) (n:=L) j2;rw[i3]at z1;have f4:=(HT.below (c7.go ((TH wr wr).alloc (aa _) (.cells #[.int .i64 (y.zs.getD (i*3) 0),.int .i64 ((pi:Int)+1),.int .i64 (y.zs.getD (i*3+2) 0)] 72))).be).par pi f9;have i7:=yP (pi+1)
             have n0:(pi:Int) <17:=by omega
             have n1:(0:Int)<=(pi:Int):=by omega
             have b8:=O c3;have d4:=O R;have i4:=O f4;clear c3 R f4 i3 g1;generalize y.zs.getD (i*3) 0=q0 at*;generalize y.zs.getD (i*3+2) 0=q2 at*;generalize kO.getD pi []=nmP at*;generalize oo (pi+1)=dg at*
             go_wp2_with(first
              |(refine qe (.tmp 125) rfl rfl rfl i4 ?_)
              |(refine mp (ku (by simp)) rfl rfl (.tmp 17) (.tmp 126) rfl rfl rfl ?_;intro w5 i9 d2;have j1:w5.heap[wr.heap.size]? =some (.cells #[q0,.int .i64 ((pi:Int)+1),q2] 72 (0,0)):=((d2 (wr+1) _ (aa _) ((TH _ _).alloc (by simp) _)).block _ (by omega)).trans (TL wr _);have f1:=d2 wr wr (by omega) (((TH _ _).alloc (aa _) _).alloc (by simp) _);have g9:=O i9;have h3:=O j1;have d1:=O f1;clear i9 d2 j1 f1))
             clear z0 z1 z2;have e0:=gA h3 0;have e2:=gA h3 2;have p0:=gA g9 0;have p1:=gA g9 1;have j4:=TK h3;have c5:=TK g9
             change w5.cell? (J (wr.heap.size))=some (.int .i64 q0)at e0
             change w5.cell? ⟨wr.heap.size,2,none⟩=some (.int .i64 q2)at e2
             change w5.cell? (J (wr+1))=some (.string (bs nmP))at p0
             change w5.cell? ⟨wr.heap.size+1,1,none⟩=some (.int .i64 (dg:Int))at p1
             go_upto_region 36 with fail
             have c4:GW wr:=Hg.of c7.be HT.glo;have b9:=O c4;clear c4;refine gS 12 [(0,true),(1,true),(2,true),(4,true),(5,true),(6,true),(7,true),(8,true),(9,true),(3,false),(10,false),(11,false)] (by kernel_rfl) (by kernel_rfl) ?_
             iterate 9
              refine gU (v:=?_) rfl (fun _ _ _ h=>h) (by rfl) ?_ ?_;rotate_left
              .intro y T
               have k1:=(T.cell (p:=J (wr.heap.size)) j4).trans e0;have k2:=(T.cell (p:=⟨wr.heap.size,2,none⟩) j4).trans e2;have k3:=(T.cell (p:=J (wr+1)) c5).trans p0;have k4:=(T.cell (p:=⟨wr.heap.size+1,1,none⟩) c5).trans p1;go_simp
               with_reducible rfl
              try simp only[V]
             clear e0 e2 p0 p1;refine gP rfl rfl (fun KK m=>?_);go_simp;refine(js q0 0 _ (by omega) (by omega) (by omega) (b9.below d1.drew)).mono ?_;rintro P wa ⟨rfl,r⟩;refine m _ _ r ?_;clear m KK;have a3:=d1.drew.trans (r.mono d1.drew.size)
             try simp only[V]
             refine gP rfl rfl (fun KK m=>?_);go_simp;refine(js q2 dg wa (by omega) (by omega) i7 (b9.below a3)).mono ?_;rintro P wb ⟨rfl,a4⟩;refine m _ _ a4 ?_;clear m KK;have z:=I a3 a4
             try simp only[V]
             refine gP rfl rfl (fun KK m=>?_);go_simp;refine m _ _ ((TH _ _).alloc (aa _) _) ?_;clear m KK
             try simp only[V]
             refine iu rfl ?_;have c1:Below wr wr (wb.alloc (.cells (ji [lj,iz q0 0,nmP,iz q2 dg]).toArray 9)):=z.alloc z.size _
             have f8:(G x 0++G x 1++G x 2++G x 3++G x 4++G x 5++G x 6++G x 7++((x.cf.take j).map ot).flatten++iF [mc,q]++((List.range i).map (mK y.zs)).flatten).length+(iF [lj,iz q0 0,nmP,iz q2 dg]).length<=1000000:=by
              have h9:=d4.out;have f0:=a6.out;rw[b8]at h9;simp only[al]at*;omega
             have a0:=O c1;clear c1 a3 z r a4
             go_wp2_with fail
             refine(kL [lj,iz q0 0,nmP,iz q2 dg] wb 4 d d (G x 0++G x 1++G x 2++G x 3++G x 4++G x 5++G x 6++G x 7++((x.cf.take j).map ot).flatten++iF [mc,q]++((List.range i).map (mK y.zs)).flatten) _ (TL wb _) (by simp) (by simp) f8 (iq c7.b a0) (af (cE c7.hi) a0.size)).mono ?_;rintro P n6 h2;obtain rfl:=jz h2;have a:=c7.next a0 h2;rw[<- b8,aC,<- qk]at a;have f7:=O a;clear a h2
             go_wp2_with fail
             go_roundw
             case rel=>exact⟨i+1,by omega,by go_num,f7⟩
             case measure=>simp[intOf];omega
            .obtain rfl:L=i:=by omega
             go_wp2_with fail
             go_roundw
             case rel=>
              refine⟨j+1,by omega,by go_num,?_⟩;have h5:=c7.out;rw[aC,aC,<- l2,<- aC]at h5;rw[CA ot x.cf Hy,<- aC];exact h5
             case measure=>simp[intOf];omega
          .obtain rfl:kn=j:=by omega
           have o:=g.out;rw[aM (by rw[a1];exact aa _)]at o;have A:=O (show yQ d x ⟨F,fn,fc⟩ ⟨H,t,E⟩ ⟨sa,sn,D⟩ ⟨K,kn,C⟩ (G x 0++G x 1++G x 2++G x 3++G x 4++G x 5++G x 6++G x 7++G x 8) w wr from o);clear o g;have d9:G x 9=iF [Fp]:=rfl;have g8:=O d9;clear d9
           go_wp2_with fail
           have c:Below wr wr (wr.alloc (.cells (ji [Fp]).toArray 9)):=(TH _ _).alloc (aa _) _;refine(kL [Fp] wr 1 d d (G x 0++G x 1++G x 2++G x 3++G x 4++G x 5++G x 6++G x 7++G x 8) _ (TL wr _) (by simp) (by simp) (by have:=B.out;have:=ai List.length g8;(try simp only[al,cI]);omega) (iq A.b c) (by have:=A.hi;have:=(c).size;omega)).mono ?_;rintro P w9 h2;obtain rfl:=jz h2;have a:=A.next c h2;rw[<- g8]at a;have b7:=O (show yQ d x ⟨F,fn,fc⟩ ⟨H,t,E⟩ ⟨sa,sn,D⟩ ⟨K,kn,C⟩ (G x 0++G x 1++G x 2++G x 3++G x 4++G x 5++G x 6++G x 7++G x 8++G x 9) w w9 from a);clear h2 a A g8
           go_wp2_with(refine(FJ d d (G x 0++G x 1++G x 2++G x 3++G x 4++G x 5++G x 6++G x 7++G x 8++G x 9) _ b7.b (by intro e;have h0:=ai List.length e;simp only[al,cI]at h0;have h1:(G x 9).length=4:=rfl;omega)).mono ?_;rintro P wz ⟨rfl,j0⟩;have l0:=O j0;clear j0)
           have c0:nO x=G x 0++(G x 1++(G x 2++(G x 3++(G x 4++(G x 5++(G x 6++(G x 7++(G x 8++G x 9)))))))):=by rw[yr];simp only[aC]
           have k9:=O c0;clear c0;go_ret2;exact⟨by rw[Hr,k9];rfl,b7.be.trans (l0.mono (cE b7.lo))⟩
end Go.Proofs.YtgohdcccfkjooaaGreatDoor
