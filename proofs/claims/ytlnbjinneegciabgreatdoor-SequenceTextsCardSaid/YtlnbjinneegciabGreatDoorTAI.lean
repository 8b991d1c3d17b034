import Derived.Test.YtlnbjinneegciabGreatDoorTAH
namespace Go.Proofs.YtlnbjinneegciabGreatDoor
set_option linter.all false
set_option maxRecDepth 100000
set_option maxHeartbeats 6400000
open Go.Proofs.Tryz Go.RowKit
def yL(z k:Int)(a:0<k):∃m,z.tmod k=m/\ -k<m/\m<k:=by
 refine⟨_,rfl,?_,?_⟩
 .have:=Int.lt_tmod_of_pos z a;omega
 .exact Int.tmod_lt_of_pos z a
def KU(x:tz)(a:Option Addr)(n c:Nat)(w:World)(hf:BR (fun b=>b<w.heap.size) w a n c x.fb)(hx:x.In):
 Calls prog 26 #[Rf x a n c] w (Nn x w):=by
 obtain⟨e1,e2⟩:=iN w (.cells (pg x a n c).toArray 99) (.cells zS 58);have Hb:=O (iH (w:=w) (.cells (pg x a n c).toArray 99) (.cells zS 58));have Hf:=O hf;have t:=O hx;have E1:=O e1;have E2:=O e2;clear hf hx e1 e2;obtain⟨mk,d9,g3⟩:=yL x.k0 3000 (by omega);obtain⟨j,e3,g5⟩:=yL x.tg 20000 (by omega)
 obtain⟨q,d8,c5⟩:∃m:Nat,x.gA.tmod 5=(m:Int)/\m<5:=by
  obtain⟨m,e,h1,h2⟩:=sJ t.gA.1 5 (by omega);exact⟨m.toNat,by omega,by omega⟩
 go_enter func26,ntmps26;go_upto_region 1 with fail;refine gI (fun wx=>Bj wx w x a n c/\wx.heap[w.heap.size+1]? =some (.cells zS 58 (0,0))/\Below w w wx) ⟨E1,E2,Hb⟩ ?_;clear E1 E2 Hb;rintro W ⟨h1,h2,hb⟩;have C:=TK h1;have g1:=TK h2;have c0:W.cell? (J (w.heap.size))=some (.int .u8 x.kind):=(VV h1 0).trans rfl;have c1:W.cell? ⟨w.heap.size,1,none⟩=some (.int .i16 x.c0):=(VV h1 1).trans rfl;have c3:W.cell? ⟨w.heap.size,3,none⟩=some (.int .i16 x.k0):=(VV h1 3).trans rfl;have d5:W.cell? ⟨w.heap.size,12,none⟩=some (.int .i16 x.tg):=(VV h1 12).trans rfl;have d6:W.cell? ⟨w.heap.size,13,none⟩=some (.int .u8 x.gA):=(VV h1 13).trans rfl;have d7:W.cell? ⟨w.heap.size,14,none⟩=some (.int .u8 x.i6):=(VV h1 14).trans rfl;have M:=O h1;have H2:=O h2;have Hb:=O hb;clear h1 h2 hb;have R:=t.c0;have S:=t.k0;have g6:=t.tg;have g7:=t.gA;have k8:=t.i6;unfold qD at R S g6;unfold og at g7 k8;have q1:IntKind.i64.wrap x.c0=x.c0:=TM _ (by omega);have q2:IntKind.i64.wrap (1000*x.c0)=1000*x.c0:=TM _ (by omega);have q3:IntKind.i64.wrap mk=mk:=TM _ (by omega);have q4:IntKind.i64.wrap (1000*mk)=1000*mk:=TM _ (by omega);have q5:IntKind.i64.wrap j=j:=TM _ (by omega);have q6:IntKind.i64.wrap (1000*j)=1000*j:=TM _ (by omega);have q7:IntKind.i64.wrap x.gA=x.gA:=TM _ (by omega);have q8:IntKind.i64.wrap x.i6=x.i6:=TM _ (by omega);have q9:IntKind.i64.wrap (100000*x.i6)=100000*x.i6:=TM _ (by omega);refine ic 29 [] [(28,3,.cells zS 58)] [(0,true),(1,true),(2,true),(3,true),(4,true),(5,true),(6,true),(7,true),(8,true),(9,true),(10,true),(11,true),(12,true),(13,true),(14,true),(15,true),(17,true),(18,true),(19,true),(20,true),(23,true),(24,true),(25,true),(26,true),(16,false),(21,true),(22,true),(27,true)] (by kernel_rfl) (by kernel_rfl) ⟨by simp,by simp,by(simp only[ct];exact⟨⟨by omega,_,rfl,rfl,rfl,fun _ _=>rfl⟩,fun _ h=>by cases h⟩)⟩ (fun _ _ _ _ _ h=>h) (fun _ _ o _ _ h=>by cases o<;>exact h) ?_
 iterate 24
  refine gZ (v:=?_) ?_ ?_;rotate_left
  .intro y hy
   have z1:=(hy.cell (p:=⟨w.heap.size,1,none⟩) C).trans c1;have z3:=(hy.cell (p:=⟨w.heap.size,3,none⟩) C).trans c3;have l7:=(hy.cell (p:=⟨w.heap.size,12,none⟩) C).trans d5;have l8:=(hy.cell (p:=⟨w.heap.size,13,none⟩) C).trans d6;have l9:=(hy.cell (p:=⟨w.heap.size,14,none⟩) C).trans d7;go_simp;with_reducible rfl
  try simp only[V]
 refine iK (fun x1 a5 K hK=>?_);go_simp;refine(EV x1).mono ?_;rintro e w3 ⟨rfl,hgl,f8,b9⟩;refine hK _ _ b9 ?_;clear hK K;have a6:Below W W x1:=gJ (k:=1) a5;have g0:=hgl q c5
 have c8:(q:Int) <5:=by omega
 iterate 2
  refine gZ (v:=?_) ?_ ?_;rotate_left
  .intro y hy
   have zg:=(hy.cell (p:=⟨x1.heap.size,q,none⟩) f8).trans g0;go_simp;with_reducible rfl
  try simp only[V]
 iterate 1
  refine iy (v:=?_) ?_ ?_;rotate_left
  .intro y
   go_simp;with_reducible rfl
  try simp only[V]
 refine nV (l:=[_]) rfl (fun b1 w4 hC e5 e7=>?_);(try simp only[V]);have h14:=I a6 (I b9 e5)
 have f1:w.heap.size+1<b1:=by have:=hC.1;omega
 have b5:=O e7;have L1:=O ((h14.block _ C).trans M);have L2:=O ((h14.block _ g1).trans H2);have Lb:=O (I Hb h14);clear a5 a6 hgl f8 b9 e5 e7 h14 hC M H2 Hb c0 c1 c3 d5 d6 d7 g0
 go_upto_region 2 with(refine hE (jH x mk j q) none 0 0 b5 rfl rfl (.tmp 3) (.tmp 32) rfl rfl rfl ?_)
 refine gI (D9 w x a n c b1 (jH x mk j q) [] none 0 0) ⟨vS.other L1 (by omega) _ _ _ _,vS.other L2 (by omega) _ _ _ _,Y.stored b5 rfl _ _ _ _,f1,Below.put22 Lb (by omega) _ _ _ _,jN.nil _ _,fun _=>rfl⟩ ?_;clear b5 L1 L2 Lb;rintro w5 g;have a2:=O g3;have E:=O g5;have a0:=O c5;have h6:=O d9;have a9:=O e3;have a8:=O d8;clear q1 q2 q3 q4 q5 q6 q7 q8 q9 d9 g3 e3 g5 d8 c5 c8 R S g6 g7 C g1;have l4:=TK g.d;have i3:w5.cell? ⟨w.heap.size,15,none⟩=some (.int .u8 x.i7):=(VV g.d 15).trans rfl;have g9:w5.cell? ⟨b1,14,none⟩=some (.int .i64 (100000*x.i6)):=(VV g.s 14).trans rfl;have h4:w5.cell? ⟨b1,15,none⟩=some (.int .i64 0):=(VV g.s 15).trans rfl;have j6:=g.s.free 15;have k5:=g.s.lt;have k6:=g.gt;obtain⟨m4,e4,j7,j8⟩:=sJ t.i7.1 4 (by omega);have E4:=O e4;have f:=O g;clear g
 have d0:IntKind.i64.wrap ((100000*x.i6).tdiv 4)=(100000*x.i6).tdiv 4:=by
  rw[bL (by omega)];exact TM _ (by omega)
 try simp only[Act.put]
 go_cut [41] (fun v wx=>∃b:Bool,v=.bool b/\(b=true->0<x.i6)/\b=decide (m4=1/\0<x.i6)/\wx=w5)
 case first=>
  cases Q:(m4==1)
  .go_wp2
   go_meet;exact⟨false,rfl,by simp,(by(have a5:¬m4=1:=(by simpa using Q));simp[a5]),rfl⟩
  .have b6:=O (show m4=1 by simpa using Q)
   by_cases hs:0<x.i6
   .have c6:0<100000*x.i6:=by omega
    go_wp2;go_meet;exact⟨true,by simp[c6],fun _=>hs,by simp[b6.out,hs],rfl⟩
   .have c6:¬0<100000*x.i6:=by omega
    go_wp2;go_meet;exact⟨false,by simp[c6],by simp,by simp[hs],rfl⟩
 case rest=>
  obtain⟨b,rfl,e9,e6,rfl⟩:=hcut;have d2:=O e6;clear e6;clear i3
  go_upto_if 41 with fail
  go_cut [] (fun wx=>∃h:Int,0<=h/\(h=0\/h<100000*x.i6)/\h=xh x/\D9 w x a n c b1 {jH x mk j q with i7:=h} [] none 0 0 wx)
  case first=>
   cases b
   .go_wp2
    go_meet;exact⟨0,Int.le_refl _,VR rfl,(by(have h1:=d2.out);(have h2:=E4.out);unfold xh;rw[h2,aj (by simpa using h1.symm)]),f⟩
   .have hs:=e9 rfl
    go_wp2;go_meet;refine⟨(100000*x.i6).tdiv 4,?_,VS ?_,(by(have h1:=d2.out);(have h2:=E4.out);unfold xh;rw[h2,aq (by simpa using h1.symm)]),f.set 15 _ {jH x mk j q with i7:=(100000*x.i6).tdiv 4} (gG f.s 15 _)⟩
    .rw[bL (by omega)];omega
    .rw[bL (by omega)];omega
  case rest=>
   obtain⟨h,h0,h1,hh,g⟩:=hcut;have Hh:=O hh;clear hh;clear g9 h4 j6 k5 d0 f e9 e4 j7 j8;obtain⟨T,e8,j9,k2⟩:=sJ t.kind.1 8 (by omega)
   have a7:T=4\/T=5\/T=6\/T=7\/((T==4)=false/\(T==5)=false/\(T==6)=false/\(T==7)=false):=by simp;omega
   have c0:wc.cell? (J (w.heap.size))=some (.int .u8 x.kind):=(VV g.d 0).trans rfl;have F:=TK g.d;have hgl:=g.s.lt;have k6:=g.gt
   have l5:w.heap.size≠b1:=by omega
   have f:=O g;have H0:=O h0;have M:=O h1;clear g h0 h1 j9 k2 f1;have b8:=O (Ri t a2 E a0 H0 M);have P:=O (Rn h6 a9 a8 Hh);have r:=O e8
   obtain rfl|rfl|rfl|rfl|⟨n4,n5,n6,n7⟩:=a7
   .clear b8
    go_wp2
    go_loopw [4] (fun iv wr=>∃i:Nat,i<=4/\iv=.int .i64 (i:Int)/\D9 w x a n c b1 (sA x {jH x mk j q with i7:=h} i) [] none 0 0 wr) (fun iv _=>4-(intOf iv).toNat)
    case atStart=>exact⟨0,by omega,rfl,f⟩
    case round=>
     clear f c0 F hgl;obtain⟨i,hi,rfl,g⟩:=hrel;have F:=TK g.d;have hgl:=g.s.lt;have H:=t.all.2.1
     have k7:i=0\/i=1\/i=2\/i=3\/i=4:=by omega
     clear hi
     obtain rfl|rfl|rfl|rfl|rfl:=k7
     .have cq:wr.cell? ⟨w.heap.size,5,none⟩=some (.int .i8 x.h0):=(VV g.d 5).trans rfl
      have kq:wr.cell? ⟨b1,5,none⟩=some (.int .i64 0):=(VV g.s 5).trans rfl;have fq:=g.s.free 5;have u0:IntKind.i64.wrap x.h0=x.h0:=TM _ (by omega);have v0:IntKind.i64.wrap (1000*x.h0)=1000*x.h0:=TM _ (by omega);have u:=O (g.set 5 (.int .i64 (1000*x.h0)) (sA x {jH x mk j q with i7:=h} 1) (gG g.s 5 _));clear g H;go_wp2
      go_roundw
      case rel=>exact⟨1,by omega,by go_num,u⟩
      case measure=>simp[intOf]
     .have cq:wr.cell? ⟨w.heap.size,6,none⟩=some (.int .i8 x.h1):=(VV g.d 6).trans rfl
      have kq:wr.cell? ⟨b1,6,none⟩=some (.int .i64 0):=(VV g.s 6).trans rfl;have fq:=g.s.free 6;have u0:IntKind.i64.wrap x.h1=x.h1:=TM _ (by omega);have v0:IntKind.i64.wrap (1000*x.h1)=1000*x.h1:=TM _ (by omega);have u:=O (g.set 6 (.int .i64 (1000*x.h1)) (sA x {jH x mk j q with i7:=h} 2) (gG g.s 6 _));clear g H;go_wp2
      go_roundw
      case rel=>exact⟨2,by omega,by go_num,u⟩
      case measure=>simp[intOf]
     .have cq:wr.cell? ⟨w.heap.size,7,none⟩=some (.int .i8 x.h2):=(VV g.d 7).trans rfl
      have kq:wr.cell? ⟨b1,7,none⟩=some (.int .i64 0):=(VV g.s 7).trans rfl;have fq:=g.s.free 7;have u0:IntKind.i64.wrap x.h2=x.h2:=TM _ (by omega);have v0:IntKind.i64.wrap (1000*x.h2)=1000*x.h2:=TM _ (by omega);have u:=O (g.set 7 (.int .i64 (1000*x.h2)) (sA x {jH x mk j q with i7:=h} 3) (gG g.s 7 _));clear g H;go_wp2
      go_roundw
      case rel=>exact⟨3,by omega,by go_num,u⟩
      case measure=>simp[intOf]
     .have cq:wr.cell? ⟨w.heap.size,8,none⟩=some (.int .i8 x.h3):=(VV g.d 8).trans rfl
      have kq:wr.cell? ⟨b1,8,none⟩=some (.int .i64 0):=(VV g.s 8).trans rfl;have fq:=g.s.free 8;have u0:IntKind.i64.wrap x.h3=x.h3:=TM _ (by omega);have v0:IntKind.i64.wrap (1000*x.h3)=1000*x.h3:=TM _ (by omega);have u:=O (g.set 8 (.int .i64 (1000*x.h3)) (sA x {jH x mk j q with i7:=h} 4) (gG g.s 8 _));clear g H;go_wp2
      go_roundw
      case rel=>exact⟨4,by omega,by go_num,u⟩
      case measure=>simp[intOf]
     .have f:=O g;clear g H
      go_upto_region 23 with(first
       |(refine wu f.d.range rfl (.tmp 1) rfl rfl ?_)
       |(go_at_call 49;refine(KN x a n c _ (Hf.go f.b)).mono ?_;rintro e w2 ⟨ca,cn,cc,zs,c7,rfl,f7,f2,f5,f6,a3⟩;have c7:=O c7;have kq:=(VV (f.s.go a3 hgl) 21).trans rfl;have fq:=Y.free (f.s.go a3 hgl) 21;have Hz:=O f7;have d3:=O f2;have d4:=O f5;have h8:=O f6;have d1:=O a3;clear f7 f2 f5 f6 a3))
      refine gI (D9 w x a n c b1 (sA x {jH x mk j q with i7:=h} 4) zs ca cn cc) (f.p8 d1 Hz d3) ?_;have l0:=O Hz.len;clear f d1 Hz d3 kq fq F hgl;rintro w6 g;have f:=O g;clear g
      go_wp2_with(first
       |(refine gO f.s rfl (.tmp 3) rfl rfl ?_)
       |(refine hE (sA x {jH x mk j q with i7:=h} 4) ca cn cc f.z rfl rfl (.tmp 2) (.tmp 148) rfl rfl rfl ?_))
      exact ar (lu (s:=sA x {jH x mk j q with i7:=h} 4) (a:=ca) (n:=cn) (c:=cc) rfl rfl (Y.stored f.z rfl _ ca cn cc)) rfl (uD f (by unfold oh;rw[aq r.out,P,c7]) (PG t a2 E a0 H0 M l0 d4 h8) d4 (lD _))
   .have c2:wc.cell? ⟨w.heap.size,2,none⟩=some (.int .i16 x.c1):=(VV f.d 2).trans rfl
    have c4:wc.cell? ⟨w.heap.size,4,none⟩=some (.int .i16 x.k1):=(VV f.d 4).trans rfl;have k0:wc.cell? (J b1)=some (.int .i64 1):=(VV f.s 0).trans rfl;have k3:wc.cell? ⟨b1,3,none⟩=some (.int .i64 0):=(VV f.s 3).trans rfl;have k4:wc.cell? ⟨b1,4,none⟩=some (.int .i64 0):=(VV f.s 4).trans rfl;have f0:=f.s.free 0;have f3:=f.s.free 3;have f4:=f.s.free 4;obtain⟨L,j3,Q⟩:=yL x.k1 3000 (by omega);have R:=t.c1;have S:=t.k1;unfold qD at R S;have q1:IntKind.i64.wrap x.c1=x.c1:=TM _ (by omega);have q2:IntKind.i64.wrap (1000*x.c1)=1000*x.c1:=TM _ (by omega);have q3:IntKind.i64.wrap L=L:=TM _ (by omega);have q4:IntKind.i64.wrap (1000*L)=1000*L:=TM _ (by omega);have b6:=O Q;have h5:=O j3;clear Q R S;have A:=f.set 0 (.int .i64 2) {jH x mk j q with i7:=h,kind:=2} (gG f.s 0 _);have B:=A.set 3 (.int .i64 (1000*x.c1)) {jH x mk j q with i7:=h,kind:=2,i5:=1000*x.c1} (gG A.s 3 _);have N:=O (B.set 4 (.int .i64 (1000*L)) {jH x mk j q with i7:=h,kind:=2,i5:=1000*x.c1,cm:=1000*L} (gG B.s 4 _));clear A B;go_upto_region 23 with fail;refine gI (D9 w x a n c b1 {jH x mk j q with i7:=h,kind:=2,i5:=1000*x.c1,cm:=1000*L} [] none 0 0) N ?_;clear N f c0 c2 c4 f0 f3 f4 k0 k3 k4 F hgl;rintro w6 g;have f:=O g;clear g
    go_wp2_with(first
     |(refine gO f.s rfl (.tmp 3) rfl rfl ?_)
     |(refine hE {jH x mk j q with i7:=h,kind:=2,i5:=1000*x.c1,cm:=1000*L} none 0 0 f.z rfl rfl (.tmp 2) (.tmp 148) rfl rfl rfl ?_))
    exact ar (lu (s:={jH x mk j q with i7:=h,kind:=2,i5:=1000*x.c1,cm:=1000*L}) (a:=none) (n:=0) (c:=0) rfl rfl (Y.stored f.z rfl _ none 0 0)) rfl (uD f (by unfold oh;rw[aj (by rw[r];decide),aq r.out,<- P,h5]) (Rj t a2 b6 E a0 H0 M) (by omega) (lD _))
   .have g8:wc.cell? ⟨b1,12,none⟩=some (.int .i64 (1000*j)):=(VV f.s 12).trans rfl
    have i4:wc.cell? ⟨w.heap.size,16,none⟩=some (.int .i8 x.b0):=(VV f.d 16).trans rfl;have i9:wc.cell? ⟨w.heap.size,17,none⟩=some (.int .i8 x.b1):=(VV f.d 17).trans rfl;have j0:wc.cell? ⟨w.heap.size,18,none⟩=some (.int .i8 x.b2):=(VV f.d 18).trans rfl;have j1:wc.cell? ⟨w.heap.size,19,none⟩=some (.int .i8 x.b3):=(VV f.d 19).trans rfl;have j2:wc.cell? ⟨w.heap.size,20,none⟩=some (.int .i8 x.b4):=(VV f.d 20).trans rfl;have H:=t.all.2.2.2.2;have u0:IntKind.i64.wrap x.b0=x.b0:=TM _ (by omega);have u1:IntKind.i64.wrap x.b1=x.b1:=TM _ (by omega);have u2:IntKind.i64.wrap x.b2=x.b2:=TM _ (by omega);have u3:IntKind.i64.wrap x.b3=x.b3:=TM _ (by omega);have u4:IntKind.i64.wrap x.b4=x.b4:=TM _ (by omega);have v0:IntKind.i64.wrap (10000*x.b0)=10000*x.b0:=TM _ (by omega);have v1:IntKind.i64.wrap (10000*x.b1)=10000*x.b1:=TM _ (by omega);have v2:IntKind.i64.wrap (100000*x.b2)=100000*x.b2:=TM _ (by omega);have v3:IntKind.i64.wrap (100000*x.b3)=100000*x.b3:=TM _ (by omega);have v4:IntKind.i64.wrap (100000*x.b4)=100000*x.b4:=TM _ (by omega);clear H
    go_upto_region 23 with(refine hE (wv x j) none 0 0 f.s rfl rfl (.tmp 3) (.tmp 112) rfl rfl rfl ?_)
    refine gI (D9 w x a n c b1 (wv x j) [] none 0 0) (f.put _) ?_;clear f g8 c0 i4 i9 j0 j1 j2 u0 u1 u2 u3 u4 v0 v1 v2 v3 v4 F hgl;rintro w6 g;have f:=O g;clear g
    go_wp2_with(first
     |(refine gO f.s rfl (.tmp 3) rfl rfl ?_)
     |(refine hE (wv x j) none 0 0 f.z rfl rfl (.tmp 2) (.tmp 148) rfl rfl rfl ?_))
    exact ar (lu (s:=wv x j) (a:=none) (n:=0) (c:=0) rfl rfl (Y.stored f.z rfl _ none 0 0)) rfl (uD f (by unfold oh;rw[aj (by rw[r];decide),aj (by rw[r];decide),aq r.out,a9]) (Rk t E) (by omega) (lD 0))
   .have i2:wc.cell? ⟨w.heap.size,11,none⟩=some (.int .i8 x.order):=(VV f.d 11).trans rfl
    have a4:=t.order;unfold tU at a4;by_cases X:x.order.tmod 2=0
    .have k1:wc.cell? ⟨b1,1,none⟩=some (.int .i64 (1000*x.c0)):=(VV f.s 1).trans rfl
     have g8:wc.cell? ⟨b1,12,none⟩=some (.int .i64 (1000*j)):=(VV f.s 12).trans rfl;have g9:wc.cell? ⟨b1,14,none⟩=some (.int .i64 (100000*x.i6)):=(VV f.s 14).trans rfl;have h4:wc.cell? ⟨b1,15,none⟩=some (.int .i64 h):=(VV f.s 15).trans rfl;have Ho:=O X;clear a4
     go_wp2_with(refine hE (Cj x j h) none 0 0 f.z rfl rfl (.tmp 2) (.tmp 127) rfl rfl rfl ?_)
     exact ar (lu (s:=Cj x j h) (a:=none) (n:=0) (c:=0) rfl rfl (Y.stored f.z rfl _ none 0 0)) rfl (No f (by unfold oh;rw[aj (by rw[r];decide),aj (by rw[r];decide),aj (by rw[r];decide),aq r.out,aq Ho.out,a9,Hh]) (Rl t E H0 M) (lD 0))
    .have l6:(x.order.tmod 2==0)=false:=by simpa using X
     have l3:wc.cell? ⟨b1,13,none⟩=some (.string (kM q)):=(VV f.s 13).trans rfl;cases hmi:kT (kM q)
     .have qm:(!(kM q).toList==[77,73,82,82,79,82])=true:=by rw[show((kM q).toList==[77,73,82,82,79,82])=false from hmi];rfl
      obtain⟨D,e0,g4⟩:=yL x.order 4 (by omega);have g2:D≠0:=e0▸S9 X;have c9:wc.cell? ⟨w.heap.size,9,none⟩=some (.int .i8 x.p0):=(VV f.d 9).trans rfl;have i1:wc.cell? ⟨w.heap.size,10,none⟩=some (.int .i8 x.p1):=(VV f.d 10).trans rfl;have H:=t.all.2.2.1;have u0:IntKind.i64.wrap x.p0=x.p0:=TM _ (by omega);have u1:IntKind.i64.wrap x.p1=x.p1:=TM _ (by omega);have u2:IntKind.i64.wrap D=D:=TM _ (by omega);have v0:IntKind.i64.wrap (1000*x.p0)=1000*x.p0:=TM _ (by omega);have v1:IntKind.i64.wrap (1000*x.p1)=1000*x.p1:=TM _ (by omega);have k9:wc.cell? ⟨b1,9,none⟩=some (.int .i64 0):=(VV f.s 9).trans rfl;have l1:wc.cell? ⟨b1,10,none⟩=some (.int .i64 0):=(VV f.s 10).trans rfl;have l2:wc.cell? ⟨b1,11,none⟩=some (.int .i64 0):=(VV f.s 11).trans rfl;have f9:=f.s.free 9;have j4:=f.s.free 10;have j5:=f.s.free 11;have b7:=O X;have h7:=O e0;have i0:=O g4;have h9:=O g2;have a1:=O hmi;clear g4 g2 hmi H X a4;have A:=f.set 11 (.int .i64 D) {jH x mk j q with i7:=h,order:=D} (gG f.s 11 _);have B:=A.set 9 (.int .i64 (1000*x.p0)) {jH x mk j q with i7:=h,order:=D,p0:=1000*x.p0} (gG A.s 9 _);have N:=O (B.set 10 (.int .i64 (1000*x.p1)) {jH x mk j q with i7:=h,order:=D,p0:=1000*x.p0,p1:=1000*x.p1} (gG B.s 10 _));clear A B;go_upto_region 23 with fail;refine gI (D9 w x a n c b1 {jH x mk j q with i7:=h,order:=D,p0:=1000*x.p0,p1:=1000*x.p1} [] none 0 0) N ?_;clear N f c0 c9 i1 i2 f9 j4 j5 k9 l1 l2 F hgl l3 qm u0 u1 u2 v0 v1;rintro w6 g;have f:=O g;clear g
      go_wp2_with(first
       |(refine gO f.s rfl (.tmp 3) rfl rfl ?_)
       |(refine hE {jH x mk j q with i7:=h,order:=D,p0:=1000*x.p0,p1:=1000*x.p1} none 0 0 f.z rfl rfl (.tmp 2) (.tmp 148) rfl rfl rfl ?_))
      exact ar (lu (s:={jH x mk j q with i7:=h,order:=D,p0:=1000*x.p0,p1:=1000*x.p1}) (a:=none) (n:=0) (c:=0) rfl rfl (Y.stored f.z rfl _ none 0 0)) rfl (uD f (by unfold oh;rw[aj (by rw[r];decide),aj (by rw[r];decide),aj (by rw[r];decide),aq r.out,aj b7.out,aj (by rw[a8];simp[a1.out]),<- P,h7]) (Rm t a2 E a0 H0 M i0 h9 a1) (by omega) (lD _))
     .have qm:(!(kM q).toList==[77,73,82,82,79,82])=false:=by rw[show((kM q).toList==[77,73,82,82,79,82])=true from hmi];rfl
      have b7:=O X;have a1:=O hmi;clear hmi X a4
      go_wp2_with(first
       |(refine gO f.s rfl (.tmp 3) rfl rfl ?_)
       |(refine hE {jH x mk j q with i7:=h} none 0 0 f.z rfl rfl (.tmp 2) (.tmp 148) rfl rfl rfl ?_))
      exact ar (lu (s:={jH x mk j q with i7:=h}) (a:=none) (n:=0) (c:=0) rfl rfl (Y.stored f.z rfl {jH x mk j q with i7:=h} none 0 0)) rfl (uD f (by unfold oh;rw[aj (by rw[r];decide),aj (by rw[r];decide),aj (by rw[r];decide),aq r.out,aj b7.out,aq (by rw[a8];exact a1),P]) b8 (by omega) (lD _))
   .go_wp2_with(first
     |(refine gO f.s rfl (.tmp 3) rfl rfl ?_)
     |(refine hE {jH x mk j q with i7:=h} none 0 0 f.z rfl rfl (.tmp 2) (.tmp 148) rfl rfl rfl ?_))
    exact ar (lu (s:={jH x mk j q with i7:=h}) (a:=none) (n:=0) (c:=0) rfl rfl (Y.stored f.z rfl {jH x mk j q with i7:=h} none 0 0)) rfl (uD f (by unfold oh;rw[aj (by rw[r];simpa using n4),aj (by rw[r];simpa using n5),aj (by rw[r];simpa using n6),aj (by rw[r];simpa using n7),P]) b8 (by omega) (lD _))
