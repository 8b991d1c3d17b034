import Derived.Test.YtlnbjinneegciabGreatDoorTAW
namespace Go.Proofs.YtlnbjinneegciabGreatDoor
set_option linter.all false
set_option maxRecDepth 100000
set_option maxHeartbeats 12800000
open Go.Proofs.Tryz Go.RowKit
def ph(y:gR)(f v s k:iJ)(n:Nat->Int)(w:World)(D:Nat->Prop)(hD:∀b,D b->b<w.heap.size)(hy:mj D w y f v s k)(hv:iI y=true)(hn:∀i,og (n i)):
 Calls prog 5 #[jG y f v s k,Nw n] w (Rw D w y f v s k):=by
 have Hy:=O hy;have Hv:=O hv;have Hn:=O hn;clear hy hv hn;obtain⟨e1,e2,e3⟩:=jh w (.cells (iw y f v s k).toArray 37) (.cells #[.int .u8 (n 0),.int .u8 (n 1),.int .u8 (n 2),.int .u8 (n 3),.int .u8 (n 4),.int .u8 (n 5),.int .u8 (n 6),.int .u8 (n 7)] 31) (.cells #[ik,oZ,oZ,oZ,oZ,oN,oN,oN,oN] 37);have Hb:=O (oF w (.cells (iw y f v s k).toArray 37) (.cells #[.int .u8 (n 0),.int .u8 (n 1),.int .u8 (n 2),.int .u8 (n 3),.int .u8 (n 4),.int .u8 (n 5),.int .u8 (n 6),.int .u8 (n 7)] 31) (.cells #[ik,oZ,oZ,oZ,oZ,oN,oN,oN,oN] 37));have E1:=O e1;have E2:=O e2;have E3:=O e3;clear e1 e2 e3;unfold jG Nw;go_enter func5,ntmps5;go_upto_region 1 with fail;refine gI (fun r=>kr r w 37 y f v s k/\Ik r (w+1) n/\r.heap[w.heap.size+2]? =some (.cells #[ik,oZ,oZ,oZ,oZ,oN,oN,oN,oN] 37 (0,0))/\Below w w r) ⟨E1,E2,E3,Hb⟩ ?_;clear E1 E2 E3 Hb;rintro w1 ⟨h1,h2,h3,hb⟩;have v6:=TK h3;have H1:=O h1;have H2:=O h2;have H3:=O h3;have Hb:=O hb;clear h1 h2 h3 hb
 go_upto_region 2 with(refine it H1 rfl (.tmp 2) rfl rfl ?_)
 refine gI (fun r=>kr r w1 37 y f v s k/\Below w1 w1 r) ⟨TL w1 _,gY (TH _ _)⟩ ?_;rintro w2 ⟨h5,e7⟩;have w7:2<=s.n/\s.n<=16:=Rv Hv Hy.at';have s3:=Hn 0;unfold og at s3
 obtain⟨X,v4,m2⟩:∃X:Nat,(n 0).tmod (s.n:Int)=(X:Int)/\X<s.n:=by
  have g1:=dq (n 0) (by omega:(s.n:Int)≠0);have g2:=da (n 0) (by omega:0<(s.n:Int));rw[bu s3.1];exact⟨((n 0)% (s.n:Int)).toNat,by omega,by omega⟩
 obtain⟨lq,q,C,cn,cc,b0,off,o6⟩:=Hy.pick m2;have o7:=Hb.size;have y8:=e7.size;have j7:=H1.go e7;have v5:=j7.lt;have o3:=h5.lt;have f0:=Hb.trans (e7.mono Hb.size);obtain⟨_,_,_,_,_,_,_,c7,_⟩:=j7.cells;have k7:=h5.cells.2.2.2.2.2.2.2.1;have f7:=h5.free 7;have b1:=O o6;have n5:=O ((o6.rr).kept (BT jX _) ((gE f0).mono hD) (fun b h=>h));have p5:=O j7;have H5:=O h5;have d5:=O f0;have p6:=O ((e7.block _ (by omega)).trans H2:Ik w2 (w+1) n);have p7:=O ((e7.block _ v6).trans H3);clear j7 h5 f0 o6 e7 H1 H2 H3 Hb;obtain⟨sa,sn,sc⟩:=s;simp only at w7 m2 v4;have m4:lq.length=sn:=n5.1;clear k7 f7
 go_upto_region 3 with(refine vq (BT jX _) underlying34 Tryz.infoSurf3 rfl (by omega) (by omega) rfl (.tmp 11) (.tmp 13) rfl (e0:=w2.heap.size) rfl (TL w2 _) (S:=D) rfl (n5.kept (BT jX _) ((gE ((TH w2 w2).alloc (ag _) _)).mono (fun b h=>by have:=hD b h;omega)) (fun b h=>h)) (by omega) (by omega) (fun b h=>by have:=hD b h;omega) ?_;intro y9 w3 g0 d1 f9 r4;have s8:=r4 b0 off;obtain⟨u,M,s9,l8,p4⟩:=g0.form (by rw[m4];omega);rw[m4]at s9;subst s9;have v3:=(f9 u rfl).1;have j8:kr w3 w1 37 y f v ⟨sa,sn,sc⟩ k:=((d1.block w1 (by simp;omega) (by intro e2;have e3:w1.heap.size=w2.heap.size:=(aE e2);omega)).trans (TJ w2 _ _ o3)).trans H5;have k7:=j8.cells.2.2.2.2.2.2.2.1;have f7:=j8.free 7;have h8:=s8 u (by rw[show sa=_ from b1.sa]) rfl X (gX q.y.s C cn cc) m2 rfl (jb b1.row (((gE d5).mono hD).trans ((gE ((TH w2 w2).alloc (ag _) _)).mono (fun b h=>by have:=hD b h;omega))) b1.db);have g4:=O h8;have l8:=(f9 u rfl).2;have j2:=O g0;have e6:=O d1;have p9:=O j8;clear g0 d1 f9 j8 r4 s8 h8)
 have r2:Below w2 w2 (w2.alloc (.cells #[] 58)):=(TH w2 w2).alloc (ag _) _;have h6:Below w2 w2 w3:=r2.grown e6 (by simp) (fun k hk=>by have:w2.heap.size=k:=aE hk;omega);have l3:=d5.trans (h6.mono d5.size)
 have d2:∀g,(Value.slice C cn cc).ownBlock=some g->D g:=fun g hg=>(b1.film.2 g hg).1.1
 have d:zX D w y f v ⟨sa,sn,sc⟩ k n w1 u M X C cn cc (w3.setCell ⟨w1.heap.size,7,none⟩ (.slice (J u) sn M)):=by
  have m1:gN (fun b=>b≠w1.heap.size) w3 (w3.setCell ⟨w1.heap.size,7,none⟩ (.slice (J u) sn M)):=gK w1 [_] 7 w3;have Q:Below w w (w3.setCell ⟨w1.heap.size,7,none⟩ (.slice (J u) sn M)):=l3.setCell (p:=⟨w1.heap.size,7,none⟩) (by show w.heap.size<=w1.heap.size;omega) _;refine⟨⟨(m1 _ (by omega)).trans ((h6.block _ (by omega)).trans p5),(m1 _ (by omega)).trans ((h6.block _ (by omega)).trans p6),(m1 _ (by omega)).trans ((h6.block _ (by omega)).trans p7),gG p9 7 _,?_,by omega,by omega,by simp;omega,hD,d2,(gE Q).mono (fun b hb=>hD b hb.1),fun g hg j _=>Q.cell (p:=⟨g,j,none⟩) (hD g (d2 g hg)),⟨Q.os,Q.tape,Q.output,Q.size,(gE Q).mono (fun b hb=>hb.1)⟩⟩,gE Q⟩
  exact(b1.rowY j2).keep iD (m1.mono (fun b hb=>by
   obtain hb|hb:=hb
   .have:=hD b hb.1;omega
   .have e:u=b:=by simpa[Value.ownBlock]using hb
    omega)) (fun b hb=>hb)
 refine gI (fun r=>zX D w y f v ⟨sa,sn,sc⟩ k n w1 u M X C cn cc r/\r.rangeAt u (X*22) (gX q.y.s C cn cc)) ⟨d,jb g4 (S:=fun b=>b≠w1.heap.size) (gK w1 [_] 7 w3) (by omega)⟩ ?_;clear r2 h6 l3 d c7 k7 f7 p5 H5 d5 n5 p6 p7 p9 j2 e6 g4 v5 o3 v3 p4 l8;rintro w4 ⟨d,h8⟩;generalize w1.heap.size=g5 at*;have c:=O d;have g4:=O h8;have s0:=d.s.hlt;have x8:=d.s.h5;have h14:=d.s.h14;obtain⟨a0,-⟩:=d.s.arr.cells;have c7:=d.s.l5.cells.2.2.2.2.2.2.2.1;have u0:IntKind.i64.wrap (n 0)=n 0:=TM _ (by omega)
 have w0:¬(sn:Int)=0:=by omega
 clear d h8;go_upto_region 4 with fail;have j1:=O (Y.new w4 q.y.s C cn cc);have q7:=O (c.below c.s.hlt (gY (o:=.cells (⟨q.y.s,C,cn,cc⟩:jt) 58) (TH w4 w4)));clear a0 u0 w0
 go_upto_region 5 with(first
  |(refine lw g4 rfl (.tmp 26) rfl rfl ?_)
  |(refine lC q.y.s C cn cc _ rfl rfl (.tmp 7) (.tmp 27) rfl rfl rfl ?_))
 refine gI (fun r=>zX D w y f v ⟨sa,sn,sc⟩ k n g5 u M X C cn cc r/\Y r w4 q.y.s C cn cc) ⟨q7,j1⟩ ?_;clear c g4 q7 j1 c7;rintro w5 ⟨d,E⟩;have a8:u<w4.heap.size:=s0;clear s0;generalize w4.heap.size=g7 at*;obtain⟨_,a1,a2,-⟩:=d.s.arr.cells;have s4:=Hn 1;have s5:=Hn 2;unfold og at s4 s5;have u1:IntKind.i64.wrap (n 1)=n 1:=TM _ (by omega);have u2:IntKind.i64.wrap (n 2)=n 2:=TM _ (by omega);have u3:IntKind.i64.wrap (1000*n 1)=1000*n 1:=TM _ (by omega);have u4:IntKind.i64.wrap (10*n 2)=10*n 2:=TM _ (by omega);obtain⟨k0,k1,k2,k3,k4,k5,k6,k7,k8,k9,b8,b9,c0,c1,c2,c3,c4,c5,c6,c8,c9,W⟩:=E.cells;have t9:=Y.free E 14;have m3:=E.lt;have o4:=d.s.hlt;have g3:Y (w5.setCell ⟨g7,14,none⟩ (.int .i64 (1000*n 1))) g7 {q.y.s with i6:=1000*n 1} C cn cc:=gG E 14 _;have j3:=O (show Y ((w5.setCell ⟨g7,14,none⟩ (.int .i64 (1000*n 1))).setCell ⟨g7,15,none⟩ (.int .i64 (10*n 2))) g7 {q.y.s with i6:=1000*n 1,i7:=10*n 2} C cn cc from gG g3 15 _);have i8:=O ((d.set a8 14 (.int .i64 (1000*n 1))).set a8 15 (.int .i64 (10*n 2)));have n8:=d.s.h5;have n9:=d.s.h14;have v0:(w5.setCell ⟨g7,14,none⟩ (.int .i64 (1000*n 1))).frozen? ⟨g7,15,none⟩=false:=Y.free g3 15;clear E d g3 k0 k1 k2 k3 k4 k5 k6 k7 k8 k9 b8 b9 c0 c1 c4 c5 c6 c8 c9 W;go_upto_region 7 with fail;refine gI (fun r=>zX D w y f v ⟨sa,sn,sc⟩ k n g5 u M X C cn cc r/\ ∃s1:gW,s1.gA=q.y.s.gA/\Y r g7 s1 C cn cc) ⟨i8,{q.y.s with i6:=1000*n 1,i7:=10*n 2},rfl,j3⟩ ?_;clear i8 j3 a1 a2 u1 u2 u3 u4 s4 s5 c2 c3 t9 v0 m3 o4 n8 n9;rintro w6 ⟨d,s1,o7,E⟩;have c:=O d;have A:=O E;have g6:=O o7;obtain⟨_,_,_,a3,a4,-⟩:=d.s.arr.cells;have m3:=E.lt;have o4:=d.s.hlt;have n8:=d.s.h5;have n9:=d.s.h14;have y5:=E.cells.1;have s6:=Hn 3;have v7:=Hn 4;unfold og at s6 v7;clear d E o7
 go_upto_if 40 with fail
 go_cut [] (fun r=>zX D w y f v ⟨sa,sn,sc⟩ k n g5 u M X C cn cc r/\ ∃s2:gW,s2.gA=q.y.s.gA/\Y r g7 s2 C cn cc)
 case first=>
  cases hkd:(s1.kind==1)
  .go_wp2
   go_meet;exact⟨c,s1,g6,A⟩
  .have u3:IntKind.i64.wrap (n 3)=n 3:=TM _ (by omega)
   have u4:IntKind.i64.wrap (n 4)=n 4:=TM _ (by omega);have u5:IntKind.i64.wrap (n 3-100)=n 3-100:=TM _ (by omega);have u6:IntKind.i64.wrap (n 4-128)=n 4-128:=TM _ (by omega);have u7:IntKind.i64.wrap (1000*(n 4-128))=1000*(n 4-128):=TM _ (by omega)
   obtain⟨j,hj,y4⟩:∃j:Nat,(n 3).tmod 4=(j:Int)/\j<4:=by
    rw[bu s6.1];exact⟨((n 3)%4).toNat,by omega,by omega⟩
   rcases(by omega:j=0\/j=1\/j=2\/j=3)with rfl|rfl|rfl|rfl
   .have hA:Y (w6.setCell ⟨g7,5,none⟩ (.int .i64 (n 3-100))) g7 {s1 with a0:=n 3-100} C cn cc:=gG A 5 _
    have HB:=O (show Y ((w6.setCell ⟨g7,5,none⟩ (.int .i64 (n 3-100))).setCell ⟨g7,2,none⟩ (.int .i64 (1000*(n 4-128)))) g7 {s1 with a0:=n 3-100,i4:=1000*(n 4-128)} C cn cc from gG hA 2 _);obtain⟨k0,k1,k2,k3,k4,k5,k6,k7,k8,k9,b8,b9,c0,c1,c2,c3,c4,c5,c6,c8,c9,W⟩:=A.cells;have q2:=hA.cells.2.2.1;have f5:=Y.free A 5;have f2:=Y.free hA 2;clear hA k0 k1 k2 k3 k4 k6 k7 k8 k9 b8 b9 c0 c1 c2 c3 c4 c5 c6 c8 c9 W;go_wp2;go_meet;exact⟨(c.set a8 5 _).set a8 2 _,{s1 with a0:=n 3-100,i4:=1000*(n 4-128)},g6,HB⟩
   .have hA:Y (w6.setCell ⟨g7,6,none⟩ (.int .i64 (n 3-100))) g7 {s1 with a1:=n 3-100} C cn cc:=gG A 6 _
    have HB:=O (show Y ((w6.setCell ⟨g7,6,none⟩ (.int .i64 (n 3-100))).setCell ⟨g7,2,none⟩ (.int .i64 (1000*(n 4-128)))) g7 {s1 with a1:=n 3-100,i4:=1000*(n 4-128)} C cn cc from gG hA 2 _);obtain⟨k0,k1,k2,k3,k4,k5,k6,k7,k8,k9,b8,b9,c0,c1,c2,c3,c4,c5,c6,c8,c9,W⟩:=A.cells;have q2:=hA.cells.2.2.1;have f6:=Y.free A 6;have f2:=Y.free hA 2;clear hA k0 k1 k2 k3 k4 k5 k7 k8 k9 b8 b9 c0 c1 c2 c3 c4 c5 c6 c8 c9 W;go_wp2;go_meet;exact⟨(c.set a8 6 _).set a8 2 _,{s1 with a1:=n 3-100,i4:=1000*(n 4-128)},g6,HB⟩
   .have hA:Y (w6.setCell ⟨g7,7,none⟩ (.int .i64 (n 3-100))) g7 {s1 with a2:=n 3-100} C cn cc:=gG A 7 _
    have HB:=O (show Y ((w6.setCell ⟨g7,7,none⟩ (.int .i64 (n 3-100))).setCell ⟨g7,2,none⟩ (.int .i64 (1000*(n 4-128)))) g7 {s1 with a2:=n 3-100,i4:=1000*(n 4-128)} C cn cc from gG hA 2 _);obtain⟨k0,k1,k2,k3,k4,k5,k6,k7,k8,k9,b8,b9,c0,c1,c2,c3,c4,c5,c6,c8,c9,W⟩:=A.cells;have q2:=hA.cells.2.2.1;have f7:=Y.free A 7;have f2:=Y.free hA 2;clear hA k0 k1 k2 k3 k4 k5 k6 k8 k9 b8 b9 c0 c1 c2 c3 c4 c5 c6 c8 c9 W;go_wp2;go_meet;exact⟨(c.set a8 7 _).set a8 2 _,{s1 with a2:=n 3-100,i4:=1000*(n 4-128)},g6,HB⟩
   .have hA:Y (w6.setCell ⟨g7,8,none⟩ (.int .i64 (n 3-100))) g7 {s1 with a3:=n 3-100} C cn cc:=gG A 8 _
    have HB:=O (show Y ((w6.setCell ⟨g7,8,none⟩ (.int .i64 (n 3-100))).setCell ⟨g7,2,none⟩ (.int .i64 (1000*(n 4-128)))) g7 {s1 with a3:=n 3-100,i4:=1000*(n 4-128)} C cn cc from gG hA 2 _);obtain⟨k0,k1,k2,k3,k4,k5,k6,k7,k8,k9,b8,b9,c0,c1,c2,c3,c4,c5,c6,c8,c9,W⟩:=A.cells;have q2:=hA.cells.2.2.1;have f8:=Y.free A 8;have f2:=Y.free hA 2;clear hA k0 k1 k2 k3 k4 k5 k6 k7 k9 b8 b9 c0 c1 c2 c3 c4 c5 c6 c8 c9 W;go_wp2;go_meet;exact⟨(c.set a8 8 _).set a8 2 _,{s1 with a3:=n 3-100,i4:=1000*(n 4-128)},g6,HB⟩
 case rest=>
  obtain⟨o1,s2,m5,E⟩:=hcut
  have h7:jN (fun b=>(Value.slice C cn cc).ownBlock=some b\/(g7<b/\b<wc.heap.size)) wc C cn cc q.y.zs:=by
   have h0:jN (fun b=>b<w.heap.size/\(Value.slice C cn cc).ownBlock=some b) w C cn cc q.y.zs:=⟨b1.film.1,fun g hg=>⟨hD g (d2 g hg),hg⟩⟩;exact h0.kept (o1.k.mono (fun b hb=>hb.1)) (fun b hb=>VR hb.2)
  have c:=O o1.s;have A:=O E;have t8:=O m5;have e4:=O h7;clear o1 m5 E h7;go_wp2
  go_loopw [8] (fun iv wr=>∃(i:Nat)(fa:Option Addr)(fn fc:Nat)(zs:List Int),i<=3/\iv=.int .i64 (i:Int)/\wB D w y f v ⟨sa,sn,sc⟩ k n g5 u M X C cn cc wr/\Y wr g7 s2 fa fn fc/\jN (fun b=>(Value.slice C cn cc).ownBlock=some b\/(g7<b/\b<wr.heap.size)) wr fa fn fc zs/\cn<=fn/\fn<=cn+i) (fun iv _=>3-(intOf iv).toNat)
  case atStart=>exact⟨0,C,cn,cc,_,by omega,rfl,c,A,e4,by omega,by omega⟩
  case round=>
   clear c A e4;obtain⟨i,fa,fn,fc,zs,hi,rfl,d,E,h7,y0,y1⟩:=hrel;obtain⟨_,_,_,_,_,a5,a6,-⟩:=d.arr.cells;have c7:=d.l5.cells.2.2.2.2.2.2.2.1;have k0:=E.cells.1;have W:=E.cells.2.2.2.2.2.2.2.2.2.2.2.2.2.2.2.2.2.2.2.2.2;have n7:=Y.free E 21;have m3:=E.lt;have o4:=d.hlt;have n8:=d.h5;have n9:=d.h14;have o5:=Hn 5;have s7:=Hn 6;unfold og at o5 s7;have c:=O d;have A:=O E;have e4:=O h7;clear d E h7
   obtain⟨M5,v2,v1⟩:∃M5:Nat,(n 5).tmod 4=(M5:Int)/\M5<=3:=by
    rw[bu o5.1];exact⟨((n 5)%4).toNat,by omega,by omega⟩
   have u5:IntKind.i64.wrap (M5:Int)=(M5:Int):=TM _ (by omega);have u6:IntKind.u8.wrap (M5:Int)=(M5:Int):=IntWalk.u8_in _ (by omega);go_upto_region 11 with fail
   go_cut [80] (fun bv r=>∃b,bv=.bool b/\(b=true->i<3)/\wr=r)
   case first=>
    by_cases q1:i<M5
    .have x0:(i:Int) <(M5:Int):=by omega
     go_wp2
     all_goals
      go_meet;exact⟨_,rfl,fun _=>by omega,rfl⟩
    .have x0:¬(i:Int) <(M5:Int):=by omega
     go_wp2
     all_goals
      go_meet;exact⟨_,rfl,fun h=>by(first|cases h|(simp at h;omega)|omega),rfl⟩
   case rest=>
    obtain⟨bb,rfl,e8,rfl⟩:=hcut;cases bb
    .clear a5 a6 u5 u6 e8 W n7 o5 s7 v2 v1
     have d3:=c.row.there (i:=X) (by rw[Hy.at'.l.1];exact m2);have o0:=b1.cn8 Hv
     have d7:s2.gA.size<=9223372036854775807:=by rw[t8];exact b1.gl
     have m:=c.fin b1 Hy.at' e4 a8 (by omega) d7;have m8:Y (wr.setCells u (X*22) (gX s2 fa fn fc)) g7 s2 fa fn fc:=(gK u _ _ wr g7 (by omega)).trans A
     have l9:IR (wr.setCells u (X*22) (gX s2 fa fn fc)).heap.size (wr.setCells u (X*22) (gX s2 fa fn fc)) 3 fa fn fc zs:=(e4.irp.kept (T:=fun b=>b<(wr.setCells u (X*22) (gX s2 fa fn fc)).heap.size) ((gK u _ _ wr).mono (fun b hb=>by
      obtain hb|hb:=hb
      .have:=c.dl b (c.own b hb);omega
      .omega)) (fun b hb=>by
      rw[im]
      obtain hb|hb:=hb
      .have:=c.dl b (c.own b hb);omega
      .exact hb.2)).ir (fun b h=>h)
     have B:=O m;have j4:=O m8;have j0:=O l9;clear m m8 l9 e4
     go_upto_region 15 with(first
      |(refine gO A rfl (.tmp 7) rfl rfl ?_)
      |(refine pX s2 fa fn fc d3 rfl (.tmp 103) (.tmp 102) rfl rfl rfl ?_;refine jJ (fun r=>yD D w y f v ⟨sa,sn,sc⟩ k n g5 {y with l:=y.l.set X ⟨s2,zs⟩} ⟨some ⟨u,0,none⟩,sn,M⟩ k r/\Y r g7 s2 fa fn fc/\IR r r 3 fa fn fc zs) ⟨B,j4,j0⟩ ?_;clear B j4 j0 c A;rintro w8 ⟨m,E,r9⟩;have B:=O m;have A:=O E;have i9:=O r9;clear m E r9))
     have f3:fn<=1000000:=by omega
     have l2:iP (fun b=>b<w8.heap.size) w8 {y with l:=y.l.set X ⟨s2,zs⟩} f v ⟨some ⟨u,0,none⟩,sn,M⟩ k:=B.at5.kept (gN.refl _ _) (fun b hb=>by
      obtain hb|hb:=hb
      .have:=B.dl b hb;have:=B.h5;have:=B.l5.lt;omega
      .exact hb.2)
     have a9:=O l2;clear l2;have m9:∃y2:gR,y2={y with l:=y.l.set X ⟨s2,zs⟩}:=⟨_,rfl⟩;obtain⟨y2,m9⟩:=m9;rw[<- m9]at B a9;clear m9 d3 c7 k0;try simp only[Act.put]
     go_cut [111] (fun bv r=>∃b,bv=.bool b/\(b=false->iI y2=true)/\yD D w y f v ⟨sa,sn,sc⟩ k n g5 y2 ⟨some ⟨u,0,none⟩,sn,M⟩ k r)
     case first=>
      have y7:=B.l5.lt;cases ho:oA s2 zs fn
      .go_wp2_with(first
        |(refine gO A rfl (.tmp 7) rfl rfl ?_)
        |((with_reducible refine(rC s2 zs fa fn fc _ i9.out f3 d7 false ho).mono ?_);rintro e w9 ⟨H,b5⟩;replace H:e=.returned (.int .i64 110):=H;subst H;have d9:=O b5;clear b5))
       go_meet;exact⟨true,rfl,fun h=>(by cases h),B.below d9⟩
      .cases hv2:iI y2
       .have j5:=O hv2;clear hv2
        go_wp2_with(first
         |(refine gO A rfl (.tmp 7) rfl rfl ?_)
         |((with_reducible refine(rC s2 zs fa fn fc _ i9.out f3 d7 true ho).mono ?_);rintro e w9 ⟨H,b5⟩;replace H:e=.returned (.int .i64 0):=H;subst H;have d9:=O b5;have n4:=O (B.l5.go b5);clear b5)
         |(refine jZ n4 (by rfl) (.tmp 5) rfl rfl ?_)
         |(go_at_call 13;(refine(sB y2 f v ⟨some ⟨u,0,none⟩,sn,M⟩ k _ (a9.go d9)).mono ?_);rintro e x2 ⟨H,b7⟩;rw[j5]at H;replace H:e=.returned (.int .i64 120):=H;subst H;have e9:=O b7;clear b7))
        go_meet;exact⟨true,rfl,fun h=>(by cases h),(B.below d9).below e9⟩
       .have j5:=O hv2;clear hv2
        go_wp2_with(first
         |(refine gO A rfl (.tmp 7) rfl rfl ?_)
         |((with_reducible refine(rC s2 zs fa fn fc _ i9.out f3 d7 true ho).mono ?_);rintro e w9 ⟨H,b5⟩;replace H:e=.returned (.int .i64 0):=H;subst H;have d9:=O b5;have n4:=O (B.l5.go b5);clear b5)
         |(refine jZ n4 (by rfl) (.tmp 5) rfl rfl ?_)
         |(go_at_call 13;(refine(sB y2 f v ⟨some ⟨u,0,none⟩,sn,M⟩ k _ (a9.go d9)).mono ?_);rintro e x2 ⟨H,b7⟩;rw[j5]at H;replace H:e=.returned (.int .i64 0):=H;subst H;have e9:=O b7;clear b7))
        go_meet;exact⟨false,rfl,fun h=>j5,(B.below d9).below e9⟩
     case rest=>
      obtain⟨bb,rfl,r3,m⟩:=hcut;have q4:=O r3;have L:=O m;clear r3 m B A i9 a9
      go_upto_if 111 with fail
      go_cut [] (fun r=>∃z P d4,iI z=true/\yD D w y f v ⟨sa,sn,sc⟩ k n g5 z P d4 r)
      case first=>
       cases bb
       .go_wp2
        go_meet;exact⟨y2,_,k,(by have:=q4.out;simpa using this),L⟩
       .have t7:=O (L.at1.kept (T:=fun b=>D b\/(g5<b/\b<wc.heap.size)) (gN.refl _ _) (fun b hb=>VR hb))
        go_wp2_with(first
         |(refine it L.l1 rfl (.tmp 2) rfl rfl ?_)
         |(refine ja y f v ⟨sa,sn,sc⟩ k L.l5 rfl rfl (.tmp 5) (.tmp 112) rfl rfl rfl ?_;intro n1 g9 g8;have n3:=O g9;have b6:=O g8;clear g9 g8))
        go_meet;exact⟨y,_,k,Hv,L.store t7 n3 b6⟩
      case rest=>
       obtain⟨z,P,d4,i0,m⟩:=hcut;have n6:=O i0;have d0:=O m;clear i0 m L q4;have a7:=d0.arr.cells.2.2.2.2.2.2.2;have v8:=Hn 7;unfold og at v8;go_upto_region 17 with fail
       go_cut [116] (fun bv r=>∃b,bv=.bool b/\yD D w y f v ⟨sa,sn,sc⟩ k n g5 z P d4 r)
       case first=>
        go_wp2
        all_goals
         go_meet;exact⟨_,rfl,d0⟩
       case rest=>
        obtain⟨b2,rfl,m⟩:=hcut;have K:=O m;clear m d0 a7
        go_upto_if 116 with fail
        go_cut [] (fun r=>∃z P d4,iI z=true/\yD D w y f v ⟨sa,sn,sc⟩ k n g5 z P d4 r)
        case first=>
         cases b2
         .go_wp2
          go_meet;exact⟨z,P,d4,n6,K⟩
         .obtain⟨N,rfl⟩:∃x:World,x=wc:=⟨_,rfl⟩
          have x4:=K.l5.lt;have x3:=K.h5
          go_upto_region 19 with(refine it K.l5 rfl (.tmp 5) rfl rfl ?_)
          refine gI (fun r=>kr r N 37 z f v P d4/\Below N N r) ⟨TL N _,gY (TH _ _)⟩ ?_;rintro F ⟨h9,d6⟩;have k8:=h9.cells.2.2.2.2.2.2.2.2;have f8:=h9.free 8;have y6:=h9.lt;have a7:=((K.below d6).arr).cells.2.2.2.2.2.2.2;have u7:IntKind.i64.wrap (n 7)=n 7:=TM _ (by omega);have u8:IntKind.i64.wrap (1000*n 7)=1000*n 7:=TM _ (by omega);have u9:IntKind.i64.wrap (1000*n 7-5)=1000*n 7-5:=TM _ (by omega);have x7:=d6.size;have H9:=O h9;have i2:=O d6;clear h9 d6
          have n0:(F.setCell ⟨N.heap.size,8,none⟩ (.slice (J (F+1)) 2 2)).heap.size=F.heap.size:=by simp
          obtain⟨e1,e2⟩:=iN (F.setCell ⟨N.heap.size,8,none⟩ (.slice (J (F+1)) 2 2)) (.cells #[oZ,.int .i64 9,.int .i64 (1000*n 7-5)] 64) (.cells #[vd,Z (J (F.heap.size)) 1 1,ve,oN] 67);rw[n0]at e1 e2;have e8:Below N N (((F.setCell ⟨N.heap.size,8,none⟩ (.slice (J (F+1)) 2 2)).alloc (.cells #[oZ,.int .i64 9,.int .i64 (1000*n 7-5)] 64)).alloc (.cells #[vd,Z (J (F.heap.size)) 1 1,ve,oN] 67)):=gY (gY (i2.setCell (p:=⟨N.heap.size,8,none⟩) (ag _) _));have h4:kr (((F.setCell ⟨N.heap.size,8,none⟩ (.slice (J (F+1)) 2 2)).alloc (.cells #[oZ,.int .i64 9,.int .i64 (1000*n 7-5)] 64)).alloc (.cells #[vd,Z (J (F.heap.size)) 1 1,ve,oN] 67)) N 37 {z with cf:=[⟨vd,[0,9,1000*n 7-5]⟩,⟨ve,[]⟩]} f v P ⟨some ⟨F.heap.size+1,0,none⟩,2,2⟩:=(TJ _ _ _ (by simp;omega)).trans ((TJ _ _ _ (by simp;omega)).trans (gG H9 8 _));have E1:=O e1;have E2:=O e2;have q3:=O e8;have d8:=O h4;clear n0 e1 e2 e8 h4;go_upto_region 20 with fail;obtain⟨z3,o8⟩:∃z3:gR,z3={z with cf:=[⟨vd,[0,9,1000*n 7-5]⟩,⟨ve,[]⟩]}:=⟨_,rfl⟩;rw[<- o8]at d8;refine gI (fun r=>kr r N 37 z3 f v P ⟨some ⟨F.heap.size+1,0,none⟩,2,2⟩/\r.heap[F.heap.size]? =some (.cells #[oZ,.int .i64 9,.int .i64 (1000*n 7-5)] 64 (0,0))/\r.heap[F.heap.size+1]? =some (.cells #[vd,Z (J (F.heap.size)) 1 1,ve,oN] 67 (0,0))/\Below N N r) ⟨d8,E1,E2,q3⟩ ?_;clear E1 E2 q3 d8 H9 i2 k8 f8 a7 u7 u8 u9;rintro n2 ⟨h4,e1,e2,l4⟩;have x5:=TK e2;have f1:=K.below l4
          have hat:iP (fun b=>D b\/(g5<b/\b<n2.heap.size)) n2 z3 f v P ⟨some ⟨F.heap.size+1,0,none⟩,2,2⟩:=by
           have h:=f1.at5;rw[o8];exact⟨h.fs,h.ws,h.l,Nx e2 e1 (VS ⟨by omega,by omega⟩) (VS ⟨by omega,by omega⟩),h.fn,h.wn,h.sn,by show 2<=1000000;omega,h.fc,h.wc,h.nm⟩
          have l0:iP (fun b=>b<n2.heap.size) n2 z3 f v P ⟨some ⟨F.heap.size+1,0,none⟩,2,2⟩:=hat.kept (gN.refl _ _) (fun b hb=>by
           obtain hb|hb:=hb
           .have:=hD b hb;omega
           .exact hb.2)
          have d8:=O h4;have i3:=O f1;have t5:=O hat;have i1:=O l0;clear h4 e1 e2 l4 f1 hat l0 o8;cases hv3:iI z3
          .have j6:=O hv3;clear hv3
           go_wp2_with(first
            |(refine it d8 rfl (.tmp 9) rfl rfl ?_)
            |(go_at_call 13;(refine(sB z3 f v P ⟨some ⟨F.heap.size+1,0,none⟩,2,2⟩ _ i1).mono ?_);rintro e t0 ⟨H,R⟩;rw[j6]at H;replace H:e=.returned (.int .i64 120):=H;subst H;have o9:=O R;clear R))
           go_meet;exact⟨z,P,d4,n6,i3.below o9⟩
          .have j6:=O hv3;clear hv3
           go_wp2_with(first
            |(refine it d8 rfl (.tmp 9) rfl rfl ?_)
            |(refine it t4 rfl (.tmp 9) rfl rfl ?_)
            |(go_at_call 13;(refine(sB z3 f v P ⟨some ⟨F.heap.size+1,0,none⟩,2,2⟩ _ i1).mono ?_);rintro e t0 ⟨H,R⟩;rw[j6]at H;replace H:e=.returned (.int .i64 0):=H;subst H;have t4:=O (d8.go R);have i5:=O (i3.below R);have a9:=O (t5.kept (T:=fun b=>D b\/(g5<b/\b<t0.heap.size)) ((gE R).mono (fun b hb=>by obtain hb|hb:=hb;have:=hD b hb;omega;exact hb.2)) (fun b hb=>by have:=R.size;obtain hb|hb:=hb;exact VR hb;exact VS ⟨hb.1,by omega⟩));clear R)
            |(refine ja z3 f v P ⟨some ⟨F.heap.size+1,0,none⟩,2,2⟩ i5.l5 rfl rfl (.tmp 5) (.tmp 132) rfl rfl rfl ?_;intro z1 r0 q9;have t3:=O r0;have p0:=O q9;clear r0 q9))
           go_meet;exact⟨z3,_,_,j6,i5.store a9 t3 p0⟩
        case rest=>
         obtain⟨z2,t2,t1,i0,m⟩:=hcut;have p3:=O i0;have t:=O m;clear i0 m K n6
         go_wp2_with(first
          |(refine it t.l5 rfl (.tmp 5) rfl rfl ?_)
          |(refine ja z2 f v t2 t1 t.z0 rfl rfl (.tmp 4) (.tmp 133) rfl rfl rfl ?_;intro n1 g9 g8;have n3:=O g9;have b6:=O g8;clear g9 g8))
         refine ar (Fe rfl rfl n3) rfl ?_;have h5:=t.h5;have o3:=t.l5.lt
         have f4:gN (fun b=>b≠w.heap.size+2) wc n1:=by rw[b6];exact gK _ _ _ _
         have x6:n1.heap.size=wc.heap.size:=by rw[b6,im]
         have l6:Below (w+2) wc n1:=by rw[b6];exact ig (ag _) _ _ (TH _ _)
         refine⟨z2,f,v,t2,t1,rfl,?_,p3,?_,⟨l6.os.trans t.quiet.os,l6.tape.trans t.quiet.tape,l6.output.trans t.quiet.output,af t.quiet.size l6.size,t.quiet.kept.trans (f4.mono (fun b h=>by omega))⟩⟩
         .exact t.at5.kept (f4.mono (fun b hb=>by
           obtain hb|hb:=hb
           .have:=hD b hb;omega
           .omega)) (fun b hb=>by
           obtain hb|hb:=hb
           .exact VR hb
           .exact VS ⟨by omega,by omega⟩)
         .exact t.at1.kept (f4.mono (fun b hb=>by have:=hD b hb;omega)) (fun b hb=>hb)
    .have y3:i<3:=e8 rfl
     clear e8 a5 u5 u6 c7 k0;have u7:IntKind.i64.wrap (n 6)=n 6:=TM _ (by omega);have u8:IntKind.i64.wrap (40000*n 6)=40000*n 6:=TM _ (by omega);have u9:IntKind.i64.wrap (10000000+40000*n 6)=10000000+40000*n 6:=TM _ (by omega);have x1:IntKind.i64.wrap (1+n 6)=1+n 6:=TM _ (by omega);have x9:=b1.cn
     go_wp2_with(refine vt rfl (.tmp 84) (.tmp 96) rfl (S:=fun b=>(Value.slice C cn cc).ownBlock=some b\/(g7<b/\b<wr.heap.size)) (10000000+40000*n 6) (i:Int) (1+n 6) (gl:=wr.heap.size) rfl (e4.kept ((gE (gY (TH wr wr))).mono (fun b hb=>by obtain hb|hb:=hb;have:=c.dl b (c.own b hb);have:=c.h5;omega;exact hb.2)) (fun b hb=>hb)) rfl (TL wr _) (by omega) (fun b hb=>by obtain hb|hb:=hb;have:=c.dl b (c.own b hb);have:=c.h5;simp;omega;have:=hb.2;simp;omega) ?_;intro b3 b4 w8 r5 o2 o0 r8;have j9:=(o2 g7 ⟨by simp;omega,by(intro hh;obtain hh|hh:=hh;have:=c.dl g7 (c.own g7 hh);have:=c.h5;omega;have:=hh.1;omega)⟩).trans ((TJ wr _ _ m3).trans A);have W:=(VV j9 21).trans rfl;have n7:w8.frozen? ⟨g7,21,none⟩=false:=(by rw[World.frozen?,j9];rfl);have q6:=O r5;have q8:=O o2;have q5:=O o0;have e5:=O r8;have q0:=O j9;clear r5 o2 o0 r8 j9)
     have r1:∀b,((Value.slice C cn cc).ownBlock=some b\/(g7<b/\b<wr.heap.size))->b≠g7:=fun b hb e=>by
      obtain hb|hb:=hb
      .have:=c.dl b (c.own b hb);omega
      .omega
     have r6:wB D w y f v ⟨sa,sn,sc⟩ k n g5 u M X C cn cc w8:=by
      refine(c.below c.hlt (gY (TH wr wr))).go (q8.mono (fun b hb=>⟨by simp;omega,fun hh=>?_⟩)) (fun g hg j hj=>?_) e5.os e5.tape e5.output e5.size
      .obtain hh|hh:=hh
       .exact hb.2 hh
       .omega
      .by_cases hc:(Value.slice fa fn fc).ownBlock=some g
       .exact q5 g hc j (by omega)
       .have hgl:=c.dl g (c.own g hg)
        exact World.cell?_of_block (a:=⟨g,j,none⟩) (e5.block g (by simp;omega) (fun e=>hc e.symm))
     have m0:gN (fun b=>b≠g7) w8 (w8.setCell ⟨g7,21,none⟩ (.slice b3 (fn+1) b4)):=gK g7 [_] 21 w8
     have m6:(w8.setCell ⟨g7,21,none⟩ (.slice b3 (fn+1) b4)).heap.size=w8.heap.size:=by simp
     have v9:wr.heap.size+1<=w8.heap.size:=by have:=e5.size;simpa using this
     have r7:=r6.set a8 21 (.slice b3 (fn+1) b4);have m7:Y (w8.setCell ⟨g7,21,none⟩ (.slice b3 (fn+1) b4)) g7 s2 b3 (fn+1) b4:=Y.p8 q0 b3 (fn+1) b4
     have l7:jN (fun b=>(Value.slice C cn cc).ownBlock=some b\/(g7<b/\b<(w8.setCell ⟨g7,21,none⟩ (.slice b3 (fn+1) b4)).heap.size)) (w8.setCell ⟨g7,21,none⟩ (.slice b3 (fn+1) b4)) b3 (fn+1) b4 (zs++[10000000+40000*n 6,(i:Int),1+n 6]):=by
      refine q6.kept (m0.mono (fun b hb=>?_)) (fun b hb=>?_)
      .obtain hb|hb:=hb
       .exact r1 b hb
       .have:=hb.1;simp at this;omega
      .rw[m6]
       obtain hb|hb:=hb
       .obtain hb|hb:=hb
        .exact VR hb
        .exact VS ⟨hb.1,by omega⟩
       .exact VS ⟨by have:=hb.1;simp at this;omega,hb.2⟩
     have t6:=O r7;have p2:=O m7;have p1:=O l7;clear r1 r6 m0 m6 v9 r7 m7 l7 q6 q8 q5 e5 q0 W n7 u7 u8 u9 x1 a6
     go_roundw
     case rel=>exact⟨i+1,b3,fn+1,b4,_,by omega,by go_num,t6,p2,p1,by omega,by omega⟩
     case measure=>simp[intOf];omega
