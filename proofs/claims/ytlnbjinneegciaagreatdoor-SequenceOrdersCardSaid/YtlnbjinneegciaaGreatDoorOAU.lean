import Derived.Test.YtlnbjinneegciaaGreatDoorOAR
namespace Go.Proofs.YtlnbjinneegciaaGreatDoor
set_option linter.all false
set_option maxRecDepth 100000
set_option maxHeartbeats 12800000
open Go.Proofs.Tryz Go.RowKit
def ph(y:gR)(f v s k:iJ)(n:Nat->Int)(w:World)(D:Nat->Prop)(hD:∀b,D b->b<w.heap.size)(hy:mj D w y f v s k)(hv:iI y=true)(hn:∀i,og (n i)):
 Calls prog 5 #[jG y f v s k,Nw n] w (Rw D w y f v s k):=by
 have Hy:=O hy;have Hv:=O hv;have Hn:=O hn;clear hy hv hn;obtain⟨e1,e2,e3⟩:=jh w (.cells (iw y f v s k).toArray 38) (.cells #[.int .u8 (n 0),.int .u8 (n 1),.int .u8 (n 2),.int .u8 (n 3),.int .u8 (n 4),.int .u8 (n 5),.int .u8 (n 6),.int .u8 (n 7)] 31) (.cells #[ik,oZ,oZ,oZ,oZ,oN,oN,oN,oN] 38);have Hb:=O (oF w (.cells (iw y f v s k).toArray 38) (.cells #[.int .u8 (n 0),.int .u8 (n 1),.int .u8 (n 2),.int .u8 (n 3),.int .u8 (n 4),.int .u8 (n 5),.int .u8 (n 6),.int .u8 (n 7)] 31) (.cells #[ik,oZ,oZ,oZ,oZ,oN,oN,oN,oN] 38));have E1:=O e1;have E2:=O e2;have E3:=O e3;clear e1 e2 e3;unfold jG Nw;go_enter func5,ntmps5;go_upto_region 1 with fail;refine gI (fun t=>hU t w 38 y f v s k/\Ik t (w+1) n/\t.heap[w.heap.size+2]? =some (.cells #[ik,oZ,oZ,oZ,oZ,oN,oN,oN,oN] 38 (0,0))/\Below w w t) ⟨E1,E2,E3,Hb⟩ ?_;clear E1 E2 E3 Hb;rintro w1 ⟨h1,h2,h3,c⟩;have v7:=TK h3;have H1:=O h1;have H2:=O h2;have H3:=O h3;have Hb:=O c;clear h1 h2 h3 c
 go_upto_region 2 with(refine it H1 rfl (.tmp 2) rfl rfl ?_)
 refine gI (fun t=>hU t w1 38 y f v s k/\Below w1 w1 t) ⟨TL w1 _,gY (TH _ _)⟩ ?_;rintro w2 ⟨h5,e7⟩;have x0:2<=s.n/\s.n<=16:=Rv Hv Hy.at';have s3:=Hn 0;unfold og at s3
 obtain⟨kk,v5,m2⟩:∃kk:Nat,(n 0).tmod (s.n:Int)=(kk:Int)/\kk<s.n:=by
  have g1:=dq (n 0) (by omega:(s.n:Int)≠0);have g2:=da (n 0) (by omega:0<(s.n:Int));rw[bu s3.1];exact⟨((n 0)% (s.n:Int)).toNat,by omega,by omega⟩
 obtain⟨lq,q,E,cn,cc,b0,off,o6⟩:=Hy.pick m2;have o7:=Hb.size;have y9:=e7.size;have j7:=H1.go e7;have v6:=j7.lt;have o3:=h5.lt;have f1:=Hb.trans (e7.mono Hb.size);obtain⟨_,_,_,_,_,_,_,c7,_⟩:=j7.cells;have k7:=h5.cells.2.2.2.2.2.2.2.1;have f7:=h5.free 7;have b1:=O o6;have n5:=O ((o6.rr).kept (BT jX _) ((gE f1).mono hD) (fun b h=>h));have p5:=O j7;have H5:=O h5;have d5:=O f1;have p6:=O ((e7.block _ (by omega)).trans H2:Ik w2 (w+1) n);have p7:=O ((e7.block _ v7).trans H3);clear j7 h5 f1 o6 e7 H1 H2 H3 Hb;obtain⟨sa,sn,sc⟩:=s;simp only at x0 m2 v5;have m4:lq.length=sn:=n5.1;clear k7 f7
 go_upto_region 3 with(refine vq (BT jX _) underlying35 Tryz.infoSurf3 rfl (by omega) (by omega) rfl (.tmp 11) (.tmp 13) rfl (e0:=w2.heap.size) rfl (TL w2 _) (S:=D) rfl (n5.kept (BT jX _) ((gE ((TH w2 w2).alloc (aa _) _)).mono (fun b h=>by have:=hD b h;omega)) (fun b h=>h)) (by omega) (by omega) (fun b h=>by have:=hD b h;omega) ?_;intro z1 w3 g3 d1 g0 r3;have s8:=r3 b0 off;obtain⟨A,N,s9,l8,p4⟩:=g3.form (by rw[m4];omega);rw[m4]at s9;subst s9;have v4:=(g0 A rfl).1;have j8:hU w3 w1 38 y f v ⟨sa,sn,sc⟩ k:=((d1.block w1 (by simp;omega) (by intro e2;have e3:w1.heap.size=w2.heap.size:=(aE e2);omega)).trans (TJ w2 _ _ o3)).trans H5;have k7:=j8.cells.2.2.2.2.2.2.2.1;have f7:=j8.free 7;have i0:=s8 A (by rw[show sa=_ from b1.sa]) rfl kk (gX q.y.s E cn cc) m2 rfl (jb b1.row (((gE d5).mono hD).trans ((gE ((TH w2 w2).alloc (aa _) _)).mono (fun b h=>by have:=hD b h;omega))) b1.db);have g6:=O i0;have l8:=(g0 A rfl).2;have j2:=O g3;have e6:=O d1;have p8:=O j8;clear g3 d1 g0 j8 r3 s8 i0)
 have r1:Below w2 w2 (w2.alloc (.cells #[] 64)):=(TH w2 w2).alloc (aa _) _;have h7:Below w2 w2 w3:=r1.grown e6 (by simp) (fun k hk=>by have:w2.heap.size=k:=aE hk;omega);have l3:=d5.trans (h7.mono d5.size)
 have d2:∀g,(Value.slice E cn cc).ownBlock=some g->D g:=fun g hg=>(b1.film.2 g hg).1.1
 have m:zX D w y f v ⟨sa,sn,sc⟩ k n w1 A N kk E cn cc (w3.setCell ⟨w1.heap.size,7,none⟩ (.slice (J A) sn N)):=by
  have m1:gN (fun b=>b≠w1.heap.size) w3 (w3.setCell ⟨w1.heap.size,7,none⟩ (.slice (J A) sn N)):=gK w1 [_] 7 w3;have R:Below w w (w3.setCell ⟨w1.heap.size,7,none⟩ (.slice (J A) sn N)):=l3.setCell (p:=⟨w1.heap.size,7,none⟩) (by show w.heap.size<=w1.heap.size;omega) _;refine⟨⟨(m1 _ (by omega)).trans ((h7.block _ (by omega)).trans p5),(m1 _ (by omega)).trans ((h7.block _ (by omega)).trans p6),(m1 _ (by omega)).trans ((h7.block _ (by omega)).trans p7),gG p8 7 _,?_,by omega,by omega,by simp;omega,hD,d2,(gE R).mono (fun b c=>hD b c.1),fun g hg j _=>R.cell (p:=⟨g,j,none⟩) (hD g (d2 g hg)),⟨R.os,R.tape,R.output,R.size,(gE R).mono (fun b c=>c.1)⟩⟩,gE R⟩
  exact(b1.rowY j2).keep iD (m1.mono (fun b c=>by
   obtain c|c:=c
   .have:=hD b c.1;omega
   .have e:A=b:=by simpa[Value.ownBlock]using c
    omega)) (fun b c=>c)
 refine gI (fun t=>zX D w y f v ⟨sa,sn,sc⟩ k n w1 A N kk E cn cc t/\t.rangeAt A (kk*22) (gX q.y.s E cn cc)) ⟨m,jb g6 (S:=fun b=>b≠w1.heap.size) (gK w1 [_] 7 w3) (by omega)⟩ ?_;clear r1 h7 l3 m c7 k7 f7 p5 H5 d5 n5 p6 p7 p8 j2 e6 g6 v6 o3 v4 p4 l8;rintro w4 ⟨m,i0⟩;generalize w1.heap.size=g5 at*;have d:=O m;have g6:=O i0;have s0:=m.s.hlt;have x9:=m.s.h5;have h14:=m.s.h14;obtain⟨a0,-⟩:=m.s.arr.cells;have c7:=m.s.l5.cells.2.2.2.2.2.2.2.1;have u0:IntKind.i64.wrap (n 0)=n 0:=TM _ (by omega)
 have w7:¬(sn:Int)=0:=by omega
 clear m i0;go_upto_region 4 with fail;have j1:=O (Y.new w4 q.y.s E cn cc);have q6:=O (d.below d.s.hlt (gY (o:=.cells (⟨q.y.s,E,cn,cc⟩:jt) 64) (TH w4 w4)));clear a0 u0 w7
 go_upto_region 5 with(first
  |(refine lw g6 rfl (.tmp 26) rfl rfl ?_)
  |(refine lC q.y.s E cn cc _ rfl rfl (.tmp 7) (.tmp 27) rfl rfl rfl ?_))
 refine gI (fun t=>zX D w y f v ⟨sa,sn,sc⟩ k n g5 A N kk E cn cc t/\Y t w4 q.y.s E cn cc) ⟨q6,j1⟩ ?_;clear d g6 q6 j1 c7;rintro w5 ⟨m,F⟩;have a8:A<w4.heap.size:=s0;clear s0;generalize w4.heap.size=g7 at*;obtain⟨_,a1,a2,-⟩:=m.s.arr.cells;have s4:=Hn 1;have s5:=Hn 2;unfold og at s4 s5;have u1:IntKind.i64.wrap (n 1)=n 1:=TM _ (by omega);have u2:IntKind.i64.wrap (n 2)=n 2:=TM _ (by omega);have u3:IntKind.i64.wrap (1000*n 1)=1000*n 1:=TM _ (by omega);have u4:IntKind.i64.wrap (10*n 2)=10*n 2:=TM _ (by omega);obtain⟨k0,k1,k2,k3,k4,k5,k6,k7,k8,k9,b8,b9,c0,c1,c2,c3,c4,c5,c6,c8,c9,X⟩:=F.cells;have v0:=Y.free F 14;have m3:=F.lt;have o4:=m.s.hlt;have g4:Y (w5.setCell ⟨g7,14,none⟩ (.int .i64 (1000*n 1))) g7 {q.y.s with i6:=1000*n 1} E cn cc:=gG F 14 _;have j3:=O (show Y ((w5.setCell ⟨g7,14,none⟩ (.int .i64 (1000*n 1))).setCell ⟨g7,15,none⟩ (.int .i64 (10*n 2))) g7 {q.y.s with i6:=1000*n 1,i7:=10*n 2} E cn cc from gG g4 15 _);have i8:=O ((m.set a8 14 (.int .i64 (1000*n 1))).set a8 15 (.int .i64 (10*n 2)));have n8:=m.s.h5;have n9:=m.s.h14;have v1:(w5.setCell ⟨g7,14,none⟩ (.int .i64 (1000*n 1))).frozen? ⟨g7,15,none⟩=false:=Y.free g4 15;clear F m g4 k0 k1 k2 k3 k4 k5 k6 k7 k8 k9 b8 b9 c0 c1 c4 c5 c6 c8 c9 X;go_upto_region 7 with fail;refine gI (fun t=>zX D w y f v ⟨sa,sn,sc⟩ k n g5 A N kk E cn cc t/\ ∃s1:gW,s1.e9=q.y.s.e9/\Y t g7 s1 E cn cc) ⟨i8,{q.y.s with i6:=1000*n 1,i7:=10*n 2},rfl,j3⟩ ?_;clear i8 j3 a1 a2 u1 u2 u3 u4 s4 s5 c2 c3 v0 v1 m3 o4 n8 n9;rintro w6 ⟨m,s1,o7,F⟩;have d:=O m;have B:=O F;have g8:=O o7;obtain⟨_,_,_,a3,a4,-⟩:=m.s.arr.cells;have m3:=F.lt;have o4:=m.s.hlt;have n8:=m.s.h5;have n9:=m.s.h14;have y6:=F.cells.1;have s6:=Hn 3;have v8:=Hn 4;unfold og at s6 v8;clear m F o7
 go_upto_if 40 with fail
 go_cut [] (fun t=>zX D w y f v ⟨sa,sn,sc⟩ k n g5 A N kk E cn cc t/\ ∃s2:gW,s2.e9=q.y.s.e9/\Y t g7 s2 E cn cc)
 case first=>
  cases hkd:(s1.kind==1)
  .go_wp2
   go_meet;exact⟨d,s1,g8,B⟩
  .have u3:IntKind.i64.wrap (n 3)=n 3:=TM _ (by omega)
   have u4:IntKind.i64.wrap (n 4)=n 4:=TM _ (by omega);have u5:IntKind.i64.wrap (n 3-100)=n 3-100:=TM _ (by omega);have u6:IntKind.i64.wrap (n 4-128)=n 4-128:=TM _ (by omega);have u7:IntKind.i64.wrap (1000*(n 4-128))=1000*(n 4-128):=TM _ (by omega)
   obtain⟨j,hj,y5⟩:∃j:Nat,(n 3).tmod 4=(j:Int)/\j<4:=by
    rw[bu s6.1];exact⟨((n 3)%4).toNat,by omega,by omega⟩
   rcases(by omega:j=0\/j=1\/j=2\/j=3)with rfl|rfl|rfl|rfl
   .have hA:Y (w6.setCell ⟨g7,5,none⟩ (.int .i64 (n 3-100))) g7 {s1 with a0:=n 3-100} E cn cc:=gG B 5 _
    have HB:=O (show Y ((w6.setCell ⟨g7,5,none⟩ (.int .i64 (n 3-100))).setCell ⟨g7,2,none⟩ (.int .i64 (1000*(n 4-128)))) g7 {s1 with a0:=n 3-100,r9:=1000*(n 4-128)} E cn cc from gG hA 2 _);obtain⟨k0,k1,k2,k3,k4,k5,k6,k7,k8,k9,b8,b9,c0,c1,c2,c3,c4,c5,c6,c8,c9,X⟩:=B.cells;have q2:=hA.cells.2.2.1;have f5:=Y.free B 5;have f2:=Y.free hA 2;clear hA k0 k1 k2 k3 k4 k6 k7 k8 k9 b8 b9 c0 c1 c2 c3 c4 c5 c6 c8 c9 X;go_wp2;go_meet;exact⟨(d.set a8 5 _).set a8 2 _,{s1 with a0:=n 3-100,r9:=1000*(n 4-128)},g8,HB⟩
   .have hA:Y (w6.setCell ⟨g7,6,none⟩ (.int .i64 (n 3-100))) g7 {s1 with a1:=n 3-100} E cn cc:=gG B 6 _
    have HB:=O (show Y ((w6.setCell ⟨g7,6,none⟩ (.int .i64 (n 3-100))).setCell ⟨g7,2,none⟩ (.int .i64 (1000*(n 4-128)))) g7 {s1 with a1:=n 3-100,r9:=1000*(n 4-128)} E cn cc from gG hA 2 _);obtain⟨k0,k1,k2,k3,k4,k5,k6,k7,k8,k9,b8,b9,c0,c1,c2,c3,c4,c5,c6,c8,c9,X⟩:=B.cells;have q2:=hA.cells.2.2.1;have f6:=Y.free B 6;have f2:=Y.free hA 2;clear hA k0 k1 k2 k3 k4 k5 k7 k8 k9 b8 b9 c0 c1 c2 c3 c4 c5 c6 c8 c9 X;go_wp2;go_meet;exact⟨(d.set a8 6 _).set a8 2 _,{s1 with a1:=n 3-100,r9:=1000*(n 4-128)},g8,HB⟩
   .have hA:Y (w6.setCell ⟨g7,7,none⟩ (.int .i64 (n 3-100))) g7 {s1 with a2:=n 3-100} E cn cc:=gG B 7 _
    have HB:=O (show Y ((w6.setCell ⟨g7,7,none⟩ (.int .i64 (n 3-100))).setCell ⟨g7,2,none⟩ (.int .i64 (1000*(n 4-128)))) g7 {s1 with a2:=n 3-100,r9:=1000*(n 4-128)} E cn cc from gG hA 2 _);obtain⟨k0,k1,k2,k3,k4,k5,k6,k7,k8,k9,b8,b9,c0,c1,c2,c3,c4,c5,c6,c8,c9,X⟩:=B.cells;have q2:=hA.cells.2.2.1;have f7:=Y.free B 7;have f2:=Y.free hA 2;clear hA k0 k1 k2 k3 k4 k5 k6 k8 k9 b8 b9 c0 c1 c2 c3 c4 c5 c6 c8 c9 X;go_wp2;go_meet;exact⟨(d.set a8 7 _).set a8 2 _,{s1 with a2:=n 3-100,r9:=1000*(n 4-128)},g8,HB⟩
   .have hA:Y (w6.setCell ⟨g7,8,none⟩ (.int .i64 (n 3-100))) g7 {s1 with a3:=n 3-100} E cn cc:=gG B 8 _
    have HB:=O (show Y ((w6.setCell ⟨g7,8,none⟩ (.int .i64 (n 3-100))).setCell ⟨g7,2,none⟩ (.int .i64 (1000*(n 4-128)))) g7 {s1 with a3:=n 3-100,r9:=1000*(n 4-128)} E cn cc from gG hA 2 _);obtain⟨k0,k1,k2,k3,k4,k5,k6,k7,k8,k9,b8,b9,c0,c1,c2,c3,c4,c5,c6,c8,c9,X⟩:=B.cells;have q2:=hA.cells.2.2.1;have f8:=Y.free B 8;have f2:=Y.free hA 2;clear hA k0 k1 k2 k3 k4 k5 k6 k7 k9 b8 b9 c0 c1 c2 c3 c4 c5 c6 c8 c9 X;go_wp2;go_meet;exact⟨(d.set a8 8 _).set a8 2 _,{s1 with a3:=n 3-100,r9:=1000*(n 4-128)},g8,HB⟩
 case rest=>
  obtain⟨o1,s2,m5,F⟩:=hcut
  have h8:jN (fun b=>(Value.slice E cn cc).ownBlock=some b\/(g7<b/\b<wc.heap.size)) wc E cn cc q.y.zs:=by
   have h0:jN (fun b=>b<w.heap.size/\(Value.slice E cn cc).ownBlock=some b) w E cn cc q.y.zs:=⟨b1.film.1,fun g hg=>⟨hD g (d2 g hg),hg⟩⟩;exact h0.kept (o1.k.mono (fun b c=>c.1)) (fun b c=>VR c.2)
  have d:=O o1.s;have B:=O F;have t8:=O m5;have e4:=O h8;clear o1 m5 F h8;go_wp2
  go_loopw [8] (fun iv wr=>∃(i:Nat)(fa:Option Addr)(fn fc:Nat)(zs:List Int),i<=3/\iv=.int .i64 (i:Int)/\wB D w y f v ⟨sa,sn,sc⟩ k n g5 A N kk E cn cc wr/\Y wr g7 s2 fa fn fc/\jN (fun b=>(Value.slice E cn cc).ownBlock=some b\/(g7<b/\b<wr.heap.size)) wr fa fn fc zs/\cn<=fn/\fn<=cn+i) (fun iv _=>3-(intOf iv).toNat)
  case atStart=>exact⟨0,E,cn,cc,_,by omega,rfl,d,B,e4,by omega,by omega⟩
  case round=>
   clear d B e4;obtain⟨i,fa,fn,fc,zs,hi,rfl,m,F,h8,y1,y3⟩:=hrel;obtain⟨_,_,_,_,_,a5,a6,-⟩:=m.arr.cells;have c7:=m.l5.cells.2.2.2.2.2.2.2.1;have k0:=F.cells.1;have X:=F.cells.2.2.2.2.2.2.2.2.2.2.2.2.2.2.2.2.2.2.2.2.2;have n7:=Y.free F 21;have m3:=F.lt;have o4:=m.hlt;have n8:=m.h5;have n9:=m.h14;have o5:=Hn 5;have s7:=Hn 6;unfold og at o5 s7;have d:=O m;have B:=O F;have e4:=O h8;clear m F h8
   obtain⟨M5,v3,v2⟩:∃M5:Nat,(n 5).tmod 4=(M5:Int)/\M5<=3:=by
    rw[bu o5.1];exact⟨((n 5)%4).toNat,by omega,by omega⟩
   have u5:IntKind.i64.wrap (M5:Int)=(M5:Int):=TM _ (by omega);have u6:IntKind.u8.wrap (M5:Int)=(M5:Int):=IntWalk.u8_in _ (by omega);go_upto_region 11 with fail
   go_cut [80] (fun bv t=>∃b,bv=.bool b/\(b=true->i<3)/\wr=t)
   case first=>
    by_cases q1:i<M5
    .have x1:(i:Int) <(M5:Int):=by omega
     go_wp2
     all_goals
      go_meet;exact⟨_,rfl,fun _=>by omega,rfl⟩
    .have x1:¬(i:Int) <(M5:Int):=by omega
     go_wp2
     all_goals
      go_meet;exact⟨_,rfl,fun h=>by(first|cases h|(simp at h;omega)|omega),rfl⟩
   case rest=>
    obtain⟨bb,rfl,e8,rfl⟩:=hcut;cases bb
    .clear a5 a6 u5 u6 e8 X n7 o5 s7 v3 v2
     have d3:=d.row.there (i:=kk) (by rw[Hy.at'.l.1];exact m2);have o0:=b1.cn8 Hv
     have d7:s2.e9.size<=9223372036854775807:=by rw[t8];exact b1.gl
     have r:=d.fin b1 Hy.at' e4 a8 (by omega) d7;have m8:Y (wr.setCells A (kk*22) (gX s2 fa fn fc)) g7 s2 fa fn fc:=(gK A _ _ wr g7 (by omega)).trans B
     have l9:IR (wr.setCells A (kk*22) (gX s2 fa fn fc)).heap.size (wr.setCells A (kk*22) (gX s2 fa fn fc)) 3 fa fn fc zs:=(e4.irp.kept (T:=fun b=>b<(wr.setCells A (kk*22) (gX s2 fa fn fc)).heap.size) ((gK A _ _ wr).mono (fun b c=>by
      obtain c|c:=c
      .have:=d.dl b (d.own b c);omega
      .omega)) (fun b c=>by
      rw[im]
      obtain c|c:=c
      .have:=d.dl b (d.own b c);omega
      .exact c.2)).ir (fun b h=>h)
     have C:=O r;have j4:=O m8;have j0:=O l9;clear r m8 l9 e4
     go_upto_region 15 with(first
      |(refine gO B rfl (.tmp 7) rfl rfl ?_)
      |(refine pX s2 fa fn fc d3 rfl (.tmp 103) (.tmp 102) rfl rfl rfl ?_;refine jJ (fun t=>yD D w y f v ⟨sa,sn,sc⟩ k n g5 {y with l:=y.l.set kk ⟨s2,zs⟩} ⟨some ⟨A,0,none⟩,sn,N⟩ k t/\Y t g7 s2 fa fn fc/\IR t t 3 fa fn fc zs) ⟨C,j4,j0⟩ ?_;clear C j4 j0 d B;rintro w8 ⟨r,F,r8⟩;have C:=O r;have B:=O F;have i9:=O r8;clear r F r8))
     have f4:fn<=1000000:=by omega
     have l2:iP (fun b=>b<w8.heap.size) w8 {y with l:=y.l.set kk ⟨s2,zs⟩} f v ⟨some ⟨A,0,none⟩,sn,N⟩ k:=C.at5.kept (gN.refl _ _) (fun b c=>by
      obtain c|c:=c
      .have:=C.dl b c;have:=C.h5;have:=C.l5.lt;omega
      .exact c.2)
     have a9:=O l2;clear l2;have m9:∃y2:gR,y2={y with l:=y.l.set kk ⟨s2,zs⟩}:=⟨_,rfl⟩;obtain⟨y2,m9⟩:=m9;rw[<- m9]at C a9;clear m9 d3 c7 k0;try simp only[Act.put]
     go_cut [111] (fun bv t=>∃b,bv=.bool b/\(b=false->iI y2=true)/\yD D w y f v ⟨sa,sn,sc⟩ k n g5 y2 ⟨some ⟨A,0,none⟩,sn,N⟩ k t)
     case first=>
      have y8:=C.l5.lt;cases ho:oA s2 zs fn
      .go_wp2_with(first
        |(refine gO B rfl (.tmp 7) rfl rfl ?_)
        |((with_reducible refine(rC s2 zs fa fn fc _ i9.out f4 d7 false ho).mono ?_);rintro e w9 ⟨K,b5⟩;replace K:e=.returned (.int .i64 110):=K;subst K;have d9:=O b5;clear b5))
       go_meet;exact⟨true,rfl,fun h=>(by cases h),C.below d9⟩
      .cases hv2:iI y2
       .have j5:=O hv2;clear hv2
        go_wp2_with(first
         |(refine gO B rfl (.tmp 7) rfl rfl ?_)
         |((with_reducible refine(rC s2 zs fa fn fc _ i9.out f4 d7 true ho).mono ?_);rintro e w9 ⟨K,b5⟩;replace K:e=.returned (.int .i64 0):=K;subst K;have d9:=O b5;have n4:=O (C.l5.go b5);clear b5)
         |(refine jZ n4 (by rfl) (.tmp 5) rfl rfl ?_)
         |(go_at_call 22;(refine(sB y2 f v ⟨some ⟨A,0,none⟩,sn,N⟩ k _ (a9.go d9)).mono ?_);rintro e x3 ⟨K,b7⟩;rw[j5]at K;replace K:e=.returned (.int .i64 120):=K;subst K;have f0:=O b7;clear b7))
        go_meet;exact⟨true,rfl,fun h=>(by cases h),(C.below d9).below f0⟩
       .have j5:=O hv2;clear hv2
        go_wp2_with(first
         |(refine gO B rfl (.tmp 7) rfl rfl ?_)
         |((with_reducible refine(rC s2 zs fa fn fc _ i9.out f4 d7 true ho).mono ?_);rintro e w9 ⟨K,b5⟩;replace K:e=.returned (.int .i64 0):=K;subst K;have d9:=O b5;have n4:=O (C.l5.go b5);clear b5)
         |(refine jZ n4 (by rfl) (.tmp 5) rfl rfl ?_)
         |(go_at_call 22;(refine(sB y2 f v ⟨some ⟨A,0,none⟩,sn,N⟩ k _ (a9.go d9)).mono ?_);rintro e x3 ⟨K,b7⟩;rw[j5]at K;replace K:e=.returned (.int .i64 0):=K;subst K;have f0:=O b7;clear b7))
        go_meet;exact⟨false,rfl,fun h=>j5,(C.below d9).below f0⟩
     case rest=>
      obtain⟨bb,rfl,r2,r⟩:=hcut;have q3:=O r2;have M:=O r;clear r2 r C B i9 a9
      go_upto_if 111 with fail
      go_cut [] (fun t=>∃z Q d4,iI z=true/\yD D w y f v ⟨sa,sn,sc⟩ k n g5 z Q d4 t)
      case first=>
       cases bb
       .go_wp2
        go_meet;exact⟨y2,_,k,(by have:=q3.out;simpa using this),M⟩
       .have t7:=O (M.at1.kept (T:=fun b=>D b\/(g5<b/\b<wc.heap.size)) (gN.refl _ _) (fun b c=>VR c))
        go_wp2_with(first
         |(refine it M.l1 rfl (.tmp 2) rfl rfl ?_)
         |(refine ja y f v ⟨sa,sn,sc⟩ k M.l5 rfl rfl (.tmp 5) (.tmp 112) rfl rfl rfl ?_;intro n1 h4 g9;have n3:=O h4;have b6:=O g9;clear h4 g9))
        go_meet;exact⟨y,_,k,Hv,M.store t7 n3 b6⟩
      case rest=>
       obtain⟨z,Q,d4,i1,r⟩:=hcut;have n6:=O i1;have d0:=O r;clear i1 r M q3;have a7:=d0.arr.cells.2.2.2.2.2.2.2;have v9:=Hn 7;unfold og at v9;go_upto_region 17 with fail
       go_cut [116] (fun bv t=>∃b,bv=.bool b/\yD D w y f v ⟨sa,sn,sc⟩ k n g5 z Q d4 t)
       case first=>
        go_wp2
        all_goals
         go_meet;exact⟨_,rfl,d0⟩
       case rest=>
        obtain⟨b2,rfl,r⟩:=hcut;have L:=O r;clear r d0 a7
        go_upto_if 116 with fail
        go_cut [] (fun t=>∃z Q d4,iI z=true/\yD D w y f v ⟨sa,sn,sc⟩ k n g5 z Q d4 t)
        case first=>
         cases b2
         .go_wp2
          go_meet;exact⟨z,Q,d4,n6,L⟩
         .obtain⟨P,rfl⟩:∃x:World,x=wc:=⟨_,rfl⟩
          have x5:=L.l5.lt;have x4:=L.h5
          go_upto_region 19 with(refine it L.l5 rfl (.tmp 5) rfl rfl ?_)
          refine gI (fun t=>hU t P 38 z f v Q d4/\Below P P t) ⟨TL P _,gY (TH _ _)⟩ ?_;rintro H ⟨h9,d6⟩;have k8:=h9.cells.2.2.2.2.2.2.2.2;have f8:=h9.free 8;have y7:=h9.lt;have a7:=((L.below d6).arr).cells.2.2.2.2.2.2.2;have u7:IntKind.i64.wrap (n 7)=n 7:=TM _ (by omega);have u8:IntKind.i64.wrap (1000*n 7)=1000*n 7:=TM _ (by omega);have u9:IntKind.i64.wrap (1000*n 7-5)=1000*n 7-5:=TM _ (by omega);have x8:=d6.size;have H9:=O h9;have i3:=O d6;clear h9 d6
          have n0:(H.setCell ⟨P.heap.size,8,none⟩ (.slice (J (H+1)) 2 2)).heap.size=H.heap.size:=by simp
          obtain⟨e1,e2⟩:=iN (H.setCell ⟨P.heap.size,8,none⟩ (.slice (J (H+1)) 2 2)) (.cells #[oZ,.int .i64 9,.int .i64 (1000*n 7-5)] 74) (.cells #[vd,Z (J (H.heap.size)) 1 1,ve,oN] 77);rw[n0]at e1 e2;have e8:Below P P (((H.setCell ⟨P.heap.size,8,none⟩ (.slice (J (H+1)) 2 2)).alloc (.cells #[oZ,.int .i64 9,.int .i64 (1000*n 7-5)] 74)).alloc (.cells #[vd,Z (J (H.heap.size)) 1 1,ve,oN] 77)):=gY (gY (i3.setCell (p:=⟨P.heap.size,8,none⟩) (aa _) _));have h6:hU (((H.setCell ⟨P.heap.size,8,none⟩ (.slice (J (H+1)) 2 2)).alloc (.cells #[oZ,.int .i64 9,.int .i64 (1000*n 7-5)] 74)).alloc (.cells #[vd,Z (J (H.heap.size)) 1 1,ve,oN] 77)) P 38 {z with cf:=[⟨vd,[0,9,1000*n 7-5]⟩,⟨ve,[]⟩]} f v Q ⟨some ⟨H.heap.size+1,0,none⟩,2,2⟩:=(TJ _ _ _ (by simp;omega)).trans ((TJ _ _ _ (by simp;omega)).trans (gG H9 8 _));have E1:=O e1;have E2:=O e2;have q0:=O e8;have d8:=O h6;clear n0 e1 e2 e8 h6;go_upto_region 20 with fail;obtain⟨z3,o8⟩:∃z3:gR,z3={z with cf:=[⟨vd,[0,9,1000*n 7-5]⟩,⟨ve,[]⟩]}:=⟨_,rfl⟩;rw[<- o8]at d8;refine gI (fun t=>hU t P 38 z3 f v Q ⟨some ⟨H.heap.size+1,0,none⟩,2,2⟩/\t.heap[H.heap.size]? =some (.cells #[oZ,.int .i64 9,.int .i64 (1000*n 7-5)] 74 (0,0))/\t.heap[H.heap.size+1]? =some (.cells #[vd,Z (J (H.heap.size)) 1 1,ve,oN] 77 (0,0))/\Below P P t) ⟨d8,E1,E2,q0⟩ ?_;clear E1 E2 q0 d8 H9 i3 k8 f8 a7 u7 u8 u9;rintro n2 ⟨h6,e1,e2,l4⟩;have x6:=TK e2;have f3:=L.below l4
          have hat:iP (fun b=>D b\/(g5<b/\b<n2.heap.size)) n2 z3 f v Q ⟨some ⟨H.heap.size+1,0,none⟩,2,2⟩:=by
           have h:=f3.at5;rw[o8];exact⟨h.fs,h.ws,h.l,Nx e2 e1 (VS ⟨by omega,by omega⟩) (VS ⟨by omega,by omega⟩),h.fn,h.wn,h.sn,by show 2<=1000000;omega,h.fc,h.wc,h.nm⟩
          have l0:iP (fun b=>b<n2.heap.size) n2 z3 f v Q ⟨some ⟨H.heap.size+1,0,none⟩,2,2⟩:=hat.kept (gN.refl _ _) (fun b c=>by
           obtain c|c:=c
           .have:=hD b c;omega
           .exact c.2)
          have d8:=O h6;have i4:=O f3;have t5:=O hat;have i2:=O l0;clear h6 e1 e2 l4 f3 hat l0 o8;cases hv3:iI z3
          .have j6:=O hv3;clear hv3
           go_wp2_with(first
            |(refine it d8 rfl (.tmp 9) rfl rfl ?_)
            |(go_at_call 22;(refine(sB z3 f v Q ⟨some ⟨H.heap.size+1,0,none⟩,2,2⟩ _ i2).mono ?_);rintro e t0 ⟨K,W⟩;rw[j6]at K;replace K:e=.returned (.int .i64 120):=K;subst K;have o9:=O W;clear W))
           go_meet;exact⟨z,Q,d4,n6,i4.below o9⟩
          .have j6:=O hv3;clear hv3
           go_wp2_with(first
            |(refine it d8 rfl (.tmp 9) rfl rfl ?_)
            |(refine it t4 rfl (.tmp 9) rfl rfl ?_)
            |(go_at_call 22;(refine(sB z3 f v Q ⟨some ⟨H.heap.size+1,0,none⟩,2,2⟩ _ i2).mono ?_);rintro e t0 ⟨K,W⟩;rw[j6]at K;replace K:e=.returned (.int .i64 0):=K;subst K;have t4:=O (d8.go W);have i5:=O (i4.below W);have a9:=O (t5.kept (T:=fun b=>D b\/(g5<b/\b<t0.heap.size)) ((gE W).mono (fun b c=>by obtain c|c:=c;have:=hD b c;omega;exact c.2)) (fun b c=>by have:=W.size;obtain c|c:=c;exact VR c;exact VS ⟨c.1,by omega⟩));clear W)
            |(refine ja z3 f v Q ⟨some ⟨H.heap.size+1,0,none⟩,2,2⟩ i5.l5 rfl rfl (.tmp 5) (.tmp 132) rfl rfl rfl ?_;intro z4 q9 q8;have t3:=O q9;have p0:=O q8;clear q9 q8))
           go_meet;exact⟨z3,_,_,j6,i5.store a9 t3 p0⟩
        case rest=>
         obtain⟨z2,t2,t1,i1,r⟩:=hcut;have p3:=O i1;have u:=O r;clear i1 r L n6
         go_wp2_with(first
          |(refine it u.l5 rfl (.tmp 5) rfl rfl ?_)
          |(refine ja z2 f v t2 t1 u.z0 rfl rfl (.tmp 4) (.tmp 133) rfl rfl rfl ?_;intro n1 h4 g9;have n3:=O h4;have b6:=O g9;clear h4 g9))
         refine ar (Fe rfl rfl n3) rfl ?_;have h5:=u.h5;have o3:=u.l5.lt
         have f9:gN (fun b=>b≠w.heap.size+2) wc n1:=by rw[b6];exact gK _ _ _ _
         have x7:n1.heap.size=wc.heap.size:=by rw[b6,im]
         have l6:Below (w+2) wc n1:=by rw[b6];exact ig (aa _) _ _ (TH _ _)
         refine⟨z2,f,v,t2,t1,rfl,?_,p3,?_,⟨l6.os.trans u.quiet.os,l6.tape.trans u.quiet.tape,l6.output.trans u.quiet.output,af u.quiet.size l6.size,u.quiet.kept.trans (f9.mono (fun b h=>by omega))⟩⟩
         .exact u.at5.kept (f9.mono (fun b c=>by
           obtain c|c:=c
           .have:=hD b c;omega
           .omega)) (fun b c=>by
           obtain c|c:=c
           .exact VR c
           .exact VS ⟨by omega,by omega⟩)
         .exact u.at1.kept (f9.mono (fun b c=>by have:=hD b c;omega)) (fun b c=>c)
    .have y4:i<3:=e8 rfl
     clear e8 a5 u5 u6 c7 k0;have u7:IntKind.i64.wrap (n 6)=n 6:=TM _ (by omega);have u8:IntKind.i64.wrap (40000*n 6)=40000*n 6:=TM _ (by omega);have u9:IntKind.i64.wrap (10000000+40000*n 6)=10000000+40000*n 6:=TM _ (by omega);have x2:IntKind.i64.wrap (1+n 6)=1+n 6:=TM _ (by omega);have y0:=b1.cn
     go_wp2_with(refine vt rfl (.tmp 84) (.tmp 96) rfl (S:=fun b=>(Value.slice E cn cc).ownBlock=some b\/(g7<b/\b<wr.heap.size)) (10000000+40000*n 6) (i:Int) (1+n 6) (gl:=wr.heap.size) rfl (e4.kept ((gE (gY (TH wr wr))).mono (fun b c=>by obtain c|c:=c;have:=d.dl b (d.own b c);have:=d.h5;omega;exact c.2)) (fun b c=>c)) rfl (TL wr _) (by omega) (fun b c=>by obtain c|c:=c;have:=d.dl b (d.own b c);have:=d.h5;simp;omega;have:=c.2;simp;omega) ?_;intro b3 b4 w8 r4 o2 o0 r7;have j9:=(o2 g7 ⟨by simp;omega,by(intro hh;obtain hh|hh:=hh;have:=d.dl g7 (d.own g7 hh);have:=d.h5;omega;have:=hh.1;omega)⟩).trans ((TJ wr _ _ m3).trans B);have X:=(VV j9 21).trans rfl;have n7:w8.frozen? ⟨g7,21,none⟩=false:=(by rw[World.frozen?,j9];rfl);have q5:=O r4;have q7:=O o2;have q4:=O o0;have e5:=O r7;have p9:=O j9;clear r4 o2 o0 r7 j9)
     have r0:∀b,((Value.slice E cn cc).ownBlock=some b\/(g7<b/\b<wr.heap.size))->b≠g7:=fun b c e=>by
      obtain c|c:=c
      .have:=d.dl b (d.own b c);omega
      .omega
     have r5:wB D w y f v ⟨sa,sn,sc⟩ k n g5 A N kk E cn cc w8:=by
      refine(d.below d.hlt (gY (TH wr wr))).go (q7.mono (fun b c=>⟨by simp;omega,fun hh=>?_⟩)) (fun g hg j hj=>?_) e5.os e5.tape e5.output e5.size
      .obtain hh|hh:=hh
       .exact c.2 hh
       .omega
      .by_cases hc:(Value.slice fa fn fc).ownBlock=some g
       .exact q4 g hc j (by omega)
       .have hgl:=d.dl g (d.own g hg)
        exact World.cell?_of_block (a:=⟨g,j,none⟩) (e5.block g (by simp;omega) (fun e=>hc e.symm))
     have m0:gN (fun b=>b≠g7) w8 (w8.setCell ⟨g7,21,none⟩ (.slice b3 (fn+1) b4)):=gK g7 [_] 21 w8
     have m6:(w8.setCell ⟨g7,21,none⟩ (.slice b3 (fn+1) b4)).heap.size=w8.heap.size:=by simp
     have w0:wr.heap.size+1<=w8.heap.size:=by have:=e5.size;simpa using this
     have r6:=r5.set a8 21 (.slice b3 (fn+1) b4);have m7:Y (w8.setCell ⟨g7,21,none⟩ (.slice b3 (fn+1) b4)) g7 s2 b3 (fn+1) b4:=Y.t9 p9 b3 (fn+1) b4
     have l7:jN (fun b=>(Value.slice E cn cc).ownBlock=some b\/(g7<b/\b<(w8.setCell ⟨g7,21,none⟩ (.slice b3 (fn+1) b4)).heap.size)) (w8.setCell ⟨g7,21,none⟩ (.slice b3 (fn+1) b4)) b3 (fn+1) b4 (zs++[10000000+40000*n 6,(i:Int),1+n 6]):=by
      refine q5.kept (m0.mono (fun b c=>?_)) (fun b c=>?_)
      .obtain c|c:=c
       .exact r0 b c
       .have:=c.1;simp at this;omega
      .rw[m6]
       obtain c|c:=c
       .obtain c|c:=c
        .exact VR c
        .exact VS ⟨c.1,by omega⟩
       .exact VS ⟨by have:=c.1;simp at this;omega,c.2⟩
     have t6:=O r6;have p2:=O m7;have p1:=O l7;clear r0 r5 m0 m6 w0 r6 m7 l7 q5 q7 q4 e5 p9 X n7 u7 u8 u9 x2 a6
     go_roundw
     case rel=>exact⟨i+1,b3,fn+1,b4,_,by omega,by go_num,t6,p2,p1,by omega,by omega⟩
     case measure=>simp[intOf];omega
