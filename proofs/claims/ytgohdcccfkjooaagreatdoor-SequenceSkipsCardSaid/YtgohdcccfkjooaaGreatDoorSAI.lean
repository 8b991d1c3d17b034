import Derived.Test.YtgohdcccfkjooaaGreatDoorSAH
namespace Go.Proofs.YtgohdcccfkjooaaGreatDoor
set_option linter.all false
set_option maxRecDepth 100000
set_option maxHeartbeats 6400000
open Go.Proofs.Tryz Go.RowKit
def yL(z k:Int)(a:0<k):∃m,z.tmod k=m/\ -k<m/\m<k:=by
 refine⟨_,rfl,?_,?_⟩
 .have:=Int.lt_tmod_of_pos z a;omega
 .exact Int.tmod_lt_of_pos z a
def KU(x a n c w)(hf:BR (fun b=>b<w.heap.size) w a n c x.films)(hx:x.In):
 Calls prog 68 #[Rf x a n c] w (Nn x w):=by
 obtain⟨e1,e2⟩:=iN w (.cells (pg x a n c).toArray 153) (.cells zS 70);have hb:=iH (w:=w) (.cells (pg x a n c).toArray 153) (.cells zS 70);have Hf:=O hf;have t:=O hx;have E1:=O e1;have E2:=O e2;have Hb:=O hb;clear hf hx e1 e2 hb;obtain⟨mk,e0,g4⟩:=yL x.k0 3000 (by omega);obtain⟨j,e5,g6⟩:=yL x.t8 20000 (by omega)
 obtain⟨q,d9,c6⟩:∃m:Nat,x.i7.tmod 5=(m:Int)/\m<5:=by
  obtain⟨m,e,h1,h2⟩:=sJ t.i7.1 5 (by omega);exact⟨m.toNat,by omega,by omega⟩
 go_enter func68,ntmps68;go_upto_region 1 with fail;refine gI (fun wx=>Bj wx w x a n c/\wx.heap[w.heap.size+1]? =some (.cells zS 70 (0,0))/\Below w w wx) ⟨E1,E2,Hb⟩ ?_;clear E1 E2 Hb;rintro w1 ⟨h1,h2,hb⟩;have D:=TK h1;have g2:=TK h2;have c0:w1.cell? (J (w.heap.size))=some (.int .u8 x.kind):=(gA h1 0).trans rfl;have c1:w1.cell? ⟨w.heap.size,1,none⟩=some (.int .i16 x.c0):=(gA h1 1).trans rfl;have c3:w1.cell? ⟨w.heap.size,3,none⟩=some (.int .i16 x.k0):=(gA h1 3).trans rfl;have d6:w1.cell? ⟨w.heap.size,12,none⟩=some (.int .i16 x.t8):=(gA h1 12).trans rfl;have d7:w1.cell? ⟨w.heap.size,13,none⟩=some (.int .u8 x.i7):=(gA h1 13).trans rfl;have d8:w1.cell? ⟨w.heap.size,14,none⟩=some (.int .u8 x.r9):=(gA h1 14).trans rfl;have N:=O h1;have H2:=O h2;have Hb:=O hb;clear h1 h2 hb;have T:=t.c0;have W:=t.k0;have g8:=t.t8;have g9:=t.i7;have k8:=t.r9;unfold qD at T W g8;unfold og at g9 k8;have q1:IntKind.i64.wrap x.c0=x.c0:=TM _ (by omega);have q2:IntKind.i64.wrap (1000*x.c0)=1000*x.c0:=TM _ (by omega);have q3:IntKind.i64.wrap mk=mk:=TM _ (by omega);have q4:IntKind.i64.wrap (1000*mk)=1000*mk:=TM _ (by omega);have q5:IntKind.i64.wrap j=j:=TM _ (by omega);have q6:IntKind.i64.wrap (1000*j)=1000*j:=TM _ (by omega);have q7:IntKind.i64.wrap x.i7=x.i7:=TM _ (by omega);have q8:IntKind.i64.wrap x.r9=x.r9:=TM _ (by omega);have q9:IntKind.i64.wrap (100000*x.r9)=100000*x.r9:=TM _ (by omega);refine ic 29 [] [(28,3,.cells zS 70)] [(0,true),(1,true),(2,true),(3,true),(4,true),(5,true),(6,true),(7,true),(8,true),(9,true),(10,true),(11,true),(12,true),(13,true),(14,true),(15,true),(17,true),(18,true),(19,true),(20,true),(23,true),(24,true),(25,true),(26,true),(16,false),(21,true),(22,true),(27,true)] (by kernel_rfl) (by kernel_rfl) ⟨by simp,by simp,by(simp only[ct];exact⟨⟨by omega,_,rfl,rfl,rfl,fun _ _=>rfl⟩,fun _ h=>by cases h⟩)⟩ (fun _ _ _ _ _ h=>h) (fun _ _ o _ _ h=>by cases o<;>exact h) ?_
 iterate 24
  refine gZ (v:=?_) ?_ ?_;rotate_left
  .intro y hy
   have z1:=(hy.cell (p:=⟨w.heap.size,1,none⟩) D).trans c1;have z3:=(hy.cell (p:=⟨w.heap.size,3,none⟩) D).trans c3;have l7:=(hy.cell (p:=⟨w.heap.size,12,none⟩) D).trans d6;have l8:=(hy.cell (p:=⟨w.heap.size,13,none⟩) D).trans d7;have l9:=(hy.cell (p:=⟨w.heap.size,14,none⟩) D).trans d8;go_simp;with_reducible rfl
  try simp only[V]
 refine iK (fun x1 a6 K hK=>?_);go_simp;refine(EV x1).mono ?_;rintro e w3 ⟨rfl,hgl,g1,c5⟩;refine hK _ _ c5 ?_;clear hK K;have a7:Below w1 w1 x1:=gJ (k:=1) a6;have g0:=hgl q c6
 have d0:(q:Int) <5:=by omega
 iterate 2
  refine gZ (v:=?_) ?_ ?_;rotate_left
  .intro y hy
   have zg:=(hy.cell (p:=⟨x1.heap.size,q,none⟩) g1).trans g0;go_simp;with_reducible rfl
  try simp only[V]
 iterate 1
  refine iy (v:=?_) ?_ ?_;rotate_left
  .intro y
   go_simp;with_reducible rfl
  try simp only[V]
 refine nV (l:=[_]) rfl (fun b1 w4 hC e6 e9=>?_);(try simp only[V]);have h14:=I a7 (I c5 e6)
 have f2:w.heap.size+1<b1:=by have:=hC.1;omega
 have b6:=O e9;have L1:=O ((h14.block _ D).trans N);have L2:=O ((h14.block _ g2).trans H2);have Lb:=O (I Hb h14);clear a6 a7 hgl g1 c5 e6 e9 h14 hC N H2 Hb c0 c1 c3 d6 d7 d8 g0
 go_upto_region 2 with(refine hE (jH x mk j q) none 0 0 b6 rfl rfl (.tmp 3) (.tmp 32) rfl rfl rfl ?_)
 refine gI (D9 w x a n c b1 (jH x mk j q) [] none 0 0) ⟨vS.other L1 (by omega) _ _ _ _,vS.other L2 (by omega) _ _ _ _,Y.stored b6 rfl _ _ _ _,f2,Below.put22 Lb (by omega) _ _ _ _,jN.nil _ _,fun _=>rfl⟩ ?_;clear b6 L1 L2 Lb;rintro w5 g;have a2:=O g4;have F:=O g6;have a0:=O c6;have h8:=O e0;have b5:=O e5;have a9:=O d9;clear q1 q2 q3 q4 q5 q6 q7 q8 q9 e0 g4 e5 g6 d9 c6 d0 T W g8 g9 D g2;have l4:=TK g.d;have i5:w5.cell? ⟨w.heap.size,15,none⟩=some (.int .u8 x.p8):=(gA g.d 15).trans rfl;have h5:w5.cell? ⟨b1,14,none⟩=some (.int .i64 (100000*x.r9)):=(gA g.s 14).trans rfl;have h6:w5.cell? ⟨b1,15,none⟩=some (.int .i64 0):=(gA g.s 15).trans rfl;have j6:=g.s.free 15;have k5:=g.s.lt;have k6:=g.gt;obtain⟨m4,e4,j7,j8⟩:=sJ t.p8.1 4 (by omega);have E4:=O e4;have f:=O g;clear g
 have d1:IntKind.i64.wrap ((100000*x.r9).tdiv 4)=(100000*x.r9).tdiv 4:=by
  rw[bL (by omega)];exact TM _ (by omega)
 try simp only[Act.put]
 go_cut [41] (fun v wx=>∃b:Bool,v=.bool b/\(b=true->0<x.r9)/\b=decide (m4=1/\0<x.r9)/\wx=w5)
 case first=>
  cases S:(m4==1)
  .go_wp2
   go_meet;exact⟨false,rfl,by simp,(by(have a6:¬m4=1:=(by simpa using S));simp[a6]),rfl⟩
  .have a4:m4=1:=by simpa using S
   have b7:=O a4;clear a4;by_cases hs:0<x.r9
   .have c7:0<100000*x.r9:=by omega
    go_wp2;go_meet;exact⟨true,by simp[c7],fun _=>hs,by simp[b7.out,hs],rfl⟩
   .have c7:¬0<100000*x.r9:=by omega
    go_wp2;go_meet;exact⟨false,by simp[c7],by simp,by simp[hs],rfl⟩
 case rest=>
  obtain⟨b,rfl,f1,e7,rfl⟩:=hcut;have d3:=O e7;clear e7;clear i5
  go_upto_if 41 with fail
  go_cut [] (fun wx=>∃h:Int,0<=h/\(h=0\/h<100000*x.r9)/\h=xh x/\D9 w x a n c b1 {jH x mk j q with p8:=h} [] none 0 0 wx)
  case first=>
   cases b
   .go_wp2
    go_meet;exact⟨0,Int.le_refl _,VR rfl,(by(have h1:=d3.out);(have h2:=E4.out);unfold xh;rw[h2,aj (by simpa using h1.symm)]),f⟩
   .have hs:=f1 rfl
    go_wp2;go_meet;refine⟨(100000*x.r9).tdiv 4,?_,VS ?_,(by(have h1:=d3.out);(have h2:=E4.out);unfold xh;rw[h2,aq (by simpa using h1.symm)]),f.set 15 _ {jH x mk j q with p8:=(100000*x.r9).tdiv 4} (gG f.s 15 _)⟩
    .rw[bL (by omega)];omega
    .rw[bL (by omega)];omega
  case rest=>
   obtain⟨h,h0,h1,hh,g⟩:=hcut;have Hh:=O hh;clear hh;clear h5 h6 j6 k5 d1 f f1 e4 j7 j8;obtain⟨X,e8,j9,k2⟩:=sJ t.kind.1 8 (by omega)
   have a8:X=4\/X=5\/X=6\/X=7\/((X==4)=false/\(X==5)=false/\(X==6)=false/\(X==7)=false):=by simp;omega
   have c0:wc.cell? (J (w.heap.size))=some (.int .u8 x.kind):=(gA g.d 0).trans rfl;have H:=TK g.d;have hgl:=g.s.lt;have k6:=g.gt
   have l5:w.heap.size≠b1:=by omega
   have f:=O g;have H0:=O h0;have N:=O h1;clear g h0 h1 j9 k2 f2;have g7:=Ri t a2 F a0 H0 N;have b9:=O g7;clear g7;have Q:=O (Rn h8 b5 a9 Hh);have r:=O e8
   obtain rfl|rfl|rfl|rfl|⟨n4,n5,n6,n7⟩:=a8
   .clear b9
    go_wp2_with fail
    go_loopw [4] (fun iv wr=>∃i:Nat,i<=4/\iv=.int .i64 (i:Int)/\D9 w x a n c b1 (sA x {jH x mk j q with p8:=h} i) [] none 0 0 wr) (fun iv _=>4-(intOf iv).toNat)
    case atStart=>exact⟨0,by omega,rfl,f⟩
    case round=>
     clear f c0 H hgl;obtain⟨i,hi,rfl,g⟩:=hrel;have H:=TK g.d;have hgl:=g.s.lt;have L:=t.all.2.1
     have k7:i=0\/i=1\/i=2\/i=3\/i=4:=by omega
     clear hi
     obtain rfl|rfl|rfl|rfl|rfl:=k7
     .have cq:wr.cell? ⟨w.heap.size,5,none⟩=some (.int .i8 x.h0):=(gA g.d 5).trans rfl
      have kq:wr.cell? ⟨b1,5,none⟩=some (.int .i64 0):=(gA g.s 5).trans rfl;have fq:=g.s.free 5;have u0:IntKind.i64.wrap x.h0=x.h0:=TM _ (by omega);have v0:IntKind.i64.wrap (1000*x.h0)=1000*x.h0:=TM _ (by omega);have u:=g.set 5 (.int .i64 (1000*x.h0)) (sA x {jH x mk j q with p8:=h} 1) (gG g.s 5 _);have A:=O u;clear g u L;go_wp2_with fail
      go_roundw
      case rel=>exact⟨1,by omega,by go_num,A⟩
      case measure=>simp[intOf]
     .have cq:wr.cell? ⟨w.heap.size,6,none⟩=some (.int .i8 x.h1):=(gA g.d 6).trans rfl
      have kq:wr.cell? ⟨b1,6,none⟩=some (.int .i64 0):=(gA g.s 6).trans rfl;have fq:=g.s.free 6;have u0:IntKind.i64.wrap x.h1=x.h1:=TM _ (by omega);have v0:IntKind.i64.wrap (1000*x.h1)=1000*x.h1:=TM _ (by omega);have u:=g.set 6 (.int .i64 (1000*x.h1)) (sA x {jH x mk j q with p8:=h} 2) (gG g.s 6 _);have A:=O u;clear g u L;go_wp2_with fail
      go_roundw
      case rel=>exact⟨2,by omega,by go_num,A⟩
      case measure=>simp[intOf]
     .have cq:wr.cell? ⟨w.heap.size,7,none⟩=some (.int .i8 x.h2):=(gA g.d 7).trans rfl
      have kq:wr.cell? ⟨b1,7,none⟩=some (.int .i64 0):=(gA g.s 7).trans rfl;have fq:=g.s.free 7;have u0:IntKind.i64.wrap x.h2=x.h2:=TM _ (by omega);have v0:IntKind.i64.wrap (1000*x.h2)=1000*x.h2:=TM _ (by omega);have u:=g.set 7 (.int .i64 (1000*x.h2)) (sA x {jH x mk j q with p8:=h} 3) (gG g.s 7 _);have A:=O u;clear g u L;go_wp2_with fail
      go_roundw
      case rel=>exact⟨3,by omega,by go_num,A⟩
      case measure=>simp[intOf]
     .have cq:wr.cell? ⟨w.heap.size,8,none⟩=some (.int .i8 x.h3):=(gA g.d 8).trans rfl
      have kq:wr.cell? ⟨b1,8,none⟩=some (.int .i64 0):=(gA g.s 8).trans rfl;have fq:=g.s.free 8;have u0:IntKind.i64.wrap x.h3=x.h3:=TM _ (by omega);have v0:IntKind.i64.wrap (1000*x.h3)=1000*x.h3:=TM _ (by omega);have u:=g.set 8 (.int .i64 (1000*x.h3)) (sA x {jH x mk j q with p8:=h} 4) (gG g.s 8 _);have A:=O u;clear g u L;go_wp2_with fail
      go_roundw
      case rel=>exact⟨4,by omega,by go_num,A⟩
      case measure=>simp[intOf]
     .have f:=O g;clear g L
      go_upto_region 23 with(first
       |(refine wu f.d.range rfl (.tmp 1) rfl rfl ?_)
       |(go_at_call 105;refine(KN x a n c _ (Hf.go f.b)).mono ?_;rintro e w2 ⟨ca,cn,cc,zs,c8,rfl,f8,f5,f6,f7,a3⟩;have c8:=O c8;have kq:=(gA (f.s.go a3 hgl) 21).trans rfl;have fq:=Y.free (f.s.go a3 hgl) 21;have Hz:=O f8;have d4:=O f5;have d5:=O f6;have i0:=O f7;have d2:=O a3;clear f8 f5 f6 f7 a3))
      refine gI (D9 w x a n c b1 (sA x {jH x mk j q with p8:=h} 4) zs ca cn cc) (f.coat d2 Hz d4) ?_;have l0:=O Hz.len;clear f d2 Hz d4 kq fq H hgl;rintro w6 g;have f:=O g;clear g
      go_wp2_with(first
       |(refine gO f.s rfl (.tmp 3) rfl rfl ?_)
       |(refine hE (sA x {jH x mk j q with p8:=h} 4) ca cn cc f.z rfl rfl (.tmp 2) (.tmp 148) rfl rfl rfl ?_))
      exact ar (lu (s:=sA x {jH x mk j q with p8:=h} 4) (a:=ca) (n:=cn) (c:=cc) rfl rfl (Y.stored f.z rfl _ ca cn cc)) rfl (uD f (by unfold oh;rw[aq r.out,Q,c8]) (PG t a2 F a0 H0 N l0 d5 i0) d5 (lD _))
   .have c2:wc.cell? ⟨w.heap.size,2,none⟩=some (.int .i16 x.c1):=(gA f.d 2).trans rfl
    have c4:wc.cell? ⟨w.heap.size,4,none⟩=some (.int .i16 x.k1):=(gA f.d 4).trans rfl;have k0:wc.cell? (J b1)=some (.int .i64 1):=(gA f.s 0).trans rfl;have k3:wc.cell? ⟨b1,3,none⟩=some (.int .i64 0):=(gA f.s 3).trans rfl;have k4:wc.cell? ⟨b1,4,none⟩=some (.int .i64 0):=(gA f.s 4).trans rfl;have f0:=f.s.free 0;have f3:=f.s.free 3;have f4:=f.s.free 4;obtain⟨M,j3,S⟩:=yL x.k1 3000 (by omega);have T:=t.c1;have W:=t.k1;unfold qD at T W;have q1:IntKind.i64.wrap x.c1=x.c1:=TM _ (by omega);have q2:IntKind.i64.wrap (1000*x.c1)=1000*x.c1:=TM _ (by omega);have q3:IntKind.i64.wrap M=M:=TM _ (by omega);have q4:IntKind.i64.wrap (1000*M)=1000*M:=TM _ (by omega);have b7:=O S;have h7:=O j3;clear S T W;have B:=f.set 0 (.int .i64 2) {jH x mk j q with p8:=h,kind:=2} (gG f.s 0 _);have C:=B.set 3 (.int .i64 (1000*x.c1)) {jH x mk j q with p8:=h,kind:=2,t6:=1000*x.c1} (gG B.s 3 _);have R:=C.set 4 (.int .i64 (1000*M)) {jH x mk j q with p8:=h,kind:=2,t6:=1000*x.c1,t7:=1000*M} (gG C.s 4 _);have P:=O R;clear B C R;go_upto_region 23 with fail;refine gI (D9 w x a n c b1 {jH x mk j q with p8:=h,kind:=2,t6:=1000*x.c1,t7:=1000*M} [] none 0 0) P ?_;clear P f c0 c2 c4 f0 f3 f4 k0 k3 k4 H hgl;rintro w6 g;have f:=O g;clear g
    go_wp2_with(first
     |(refine gO f.s rfl (.tmp 3) rfl rfl ?_)
     |(refine hE {jH x mk j q with p8:=h,kind:=2,t6:=1000*x.c1,t7:=1000*M} none 0 0 f.z rfl rfl (.tmp 2) (.tmp 148) rfl rfl rfl ?_))
    exact ar (lu (s:={jH x mk j q with p8:=h,kind:=2,t6:=1000*x.c1,t7:=1000*M}) (a:=none) (n:=0) (c:=0) rfl rfl (Y.stored f.z rfl _ none 0 0)) rfl (uD f (by unfold oh;rw[aj (by rw[r];decide),aq r.out,<- Q,h7]) (Rj t a2 b7 F a0 H0 N) (by omega) (lD _))
   .have h4:wc.cell? ⟨b1,12,none⟩=some (.int .i64 (1000*j)):=(gA f.s 12).trans rfl
    have i6:wc.cell? ⟨w.heap.size,16,none⟩=some (.int .i8 x.b0):=(gA f.d 16).trans rfl;have i9:wc.cell? ⟨w.heap.size,17,none⟩=some (.int .i8 x.b1):=(gA f.d 17).trans rfl;have j0:wc.cell? ⟨w.heap.size,18,none⟩=some (.int .i8 x.b2):=(gA f.d 18).trans rfl;have j1:wc.cell? ⟨w.heap.size,19,none⟩=some (.int .i8 x.b3):=(gA f.d 19).trans rfl;have j2:wc.cell? ⟨w.heap.size,20,none⟩=some (.int .i8 x.b4):=(gA f.d 20).trans rfl;have L:=t.all.2.2.2.2;have u0:IntKind.i64.wrap x.b0=x.b0:=TM _ (by omega);have u1:IntKind.i64.wrap x.b1=x.b1:=TM _ (by omega);have u2:IntKind.i64.wrap x.b2=x.b2:=TM _ (by omega);have u3:IntKind.i64.wrap x.b3=x.b3:=TM _ (by omega);have u4:IntKind.i64.wrap x.b4=x.b4:=TM _ (by omega);have v0:IntKind.i64.wrap (10000*x.b0)=10000*x.b0:=TM _ (by omega);have v1:IntKind.i64.wrap (10000*x.b1)=10000*x.b1:=TM _ (by omega);have v2:IntKind.i64.wrap (100000*x.b2)=100000*x.b2:=TM _ (by omega);have v3:IntKind.i64.wrap (100000*x.b3)=100000*x.b3:=TM _ (by omega);have v4:IntKind.i64.wrap (100000*x.b4)=100000*x.b4:=TM _ (by omega);clear L
    go_upto_region 23 with(refine hE (wv x j) none 0 0 f.s rfl rfl (.tmp 3) (.tmp 112) rfl rfl rfl ?_)
    refine gI (D9 w x a n c b1 (wv x j) [] none 0 0) (f.put _) ?_;clear f h4 c0 i6 i9 j0 j1 j2 u0 u1 u2 u3 u4 v0 v1 v2 v3 v4 H hgl;rintro w6 g;have f:=O g;clear g
    go_wp2_with(first
     |(refine gO f.s rfl (.tmp 3) rfl rfl ?_)
     |(refine hE (wv x j) none 0 0 f.z rfl rfl (.tmp 2) (.tmp 148) rfl rfl rfl ?_))
    exact ar (lu (s:=wv x j) (a:=none) (n:=0) (c:=0) rfl rfl (Y.stored f.z rfl _ none 0 0)) rfl (uD f (by unfold oh;rw[aj (by rw[r];decide),aj (by rw[r];decide),aq r.out,b5]) (Rk t F) (by omega) (lD 0))
   .have i4:wc.cell? ⟨w.heap.size,11,none⟩=some (.int .i8 x.order):=(gA f.d 11).trans rfl
    have a5:=t.order;unfold tU at a5;by_cases ho:x.order.tmod 2=0
    .have k1:wc.cell? ⟨b1,1,none⟩=some (.int .i64 (1000*x.c0)):=(gA f.s 1).trans rfl
     have h4:wc.cell? ⟨b1,12,none⟩=some (.int .i64 (1000*j)):=(gA f.s 12).trans rfl;have h5:wc.cell? ⟨b1,14,none⟩=some (.int .i64 (100000*x.r9)):=(gA f.s 14).trans rfl;have h6:wc.cell? ⟨b1,15,none⟩=some (.int .i64 h):=(gA f.s 15).trans rfl;have Ho:=O ho;clear a5
     go_wp2_with(refine hE (Cj x j h) none 0 0 f.z rfl rfl (.tmp 2) (.tmp 127) rfl rfl rfl ?_)
     exact ar (lu (s:=Cj x j h) (a:=none) (n:=0) (c:=0) rfl rfl (Y.stored f.z rfl _ none 0 0)) rfl (No f (by unfold oh;rw[aj (by rw[r];decide),aj (by rw[r];decide),aj (by rw[r];decide),aq r.out,aq Ho.out,b5,Hh]) (Rl t F H0 N) (lD 0))
    .have l6:(x.order.tmod 2==0)=false:=by simpa using ho
     have l3:wc.cell? ⟨b1,13,none⟩=some (.string (kM q)):=(gA f.s 13).trans rfl;cases hmi:kT (kM q)
     .have qm:(!(kM q).toList==[77,73,82,82,79,82])=true:=by rw[show((kM q).toList==[77,73,82,82,79,82])=false from hmi];rfl
      obtain⟨E,e3,g5⟩:=yL x.order 4 (by omega);have g3:E≠0:=e3▸S9 ho;have c9:wc.cell? ⟨w.heap.size,9,none⟩=some (.int .i8 x.p0):=(gA f.d 9).trans rfl;have i3:wc.cell? ⟨w.heap.size,10,none⟩=some (.int .i8 x.p1):=(gA f.d 10).trans rfl;have L:=t.all.2.2.1;have u0:IntKind.i64.wrap x.p0=x.p0:=TM _ (by omega);have u1:IntKind.i64.wrap x.p1=x.p1:=TM _ (by omega);have u2:IntKind.i64.wrap E=E:=TM _ (by omega);have v0:IntKind.i64.wrap (1000*x.p0)=1000*x.p0:=TM _ (by omega);have v1:IntKind.i64.wrap (1000*x.p1)=1000*x.p1:=TM _ (by omega);have k9:wc.cell? ⟨b1,9,none⟩=some (.int .i64 0):=(gA f.s 9).trans rfl;have l1:wc.cell? ⟨b1,10,none⟩=some (.int .i64 0):=(gA f.s 10).trans rfl;have l2:wc.cell? ⟨b1,11,none⟩=some (.int .i64 0):=(gA f.s 11).trans rfl;have f9:=f.s.free 9;have j4:=f.s.free 10;have j5:=f.s.free 11;have b8:=O ho;have h9:=O e3;have i2:=O g5;have i1:=O g3;have a1:=O hmi;clear g5 g3 hmi L ho a5;have B:=f.set 11 (.int .i64 E) {jH x mk j q with p8:=h,order:=E} (gG f.s 11 _);have C:=B.set 9 (.int .i64 (1000*x.p0)) {jH x mk j q with p8:=h,order:=E,p0:=1000*x.p0} (gG B.s 9 _);have R:=C.set 10 (.int .i64 (1000*x.p1)) {jH x mk j q with p8:=h,order:=E,p0:=1000*x.p0,p1:=1000*x.p1} (gG C.s 10 _);have P:=O R;clear B C R;go_upto_region 23 with fail;refine gI (D9 w x a n c b1 {jH x mk j q with p8:=h,order:=E,p0:=1000*x.p0,p1:=1000*x.p1} [] none 0 0) P ?_;clear P f c0 c9 i3 i4 f9 j4 j5 k9 l1 l2 H hgl l3 qm u0 u1 u2 v0 v1;rintro w6 g;have f:=O g;clear g
      go_wp2_with(first
       |(refine gO f.s rfl (.tmp 3) rfl rfl ?_)
       |(refine hE {jH x mk j q with p8:=h,order:=E,p0:=1000*x.p0,p1:=1000*x.p1} none 0 0 f.z rfl rfl (.tmp 2) (.tmp 148) rfl rfl rfl ?_))
      exact ar (lu (s:={jH x mk j q with p8:=h,order:=E,p0:=1000*x.p0,p1:=1000*x.p1}) (a:=none) (n:=0) (c:=0) rfl rfl (Y.stored f.z rfl _ none 0 0)) rfl (uD f (by unfold oh;rw[aj (by rw[r];decide),aj (by rw[r];decide),aj (by rw[r];decide),aq r.out,aj b8.out,aj (by rw[a9];simp[a1.out]),<- Q,h9]) (Rm t a2 F a0 H0 N i2 i1 a1) (by omega) (lD _))
     .have qm:(!(kM q).toList==[77,73,82,82,79,82])=false:=by rw[show((kM q).toList==[77,73,82,82,79,82])=true from hmi];rfl
      have b8:=O ho;have a1:=O hmi;clear hmi ho a5
      go_wp2_with(first
       |(refine gO f.s rfl (.tmp 3) rfl rfl ?_)
       |(refine hE {jH x mk j q with p8:=h} none 0 0 f.z rfl rfl (.tmp 2) (.tmp 148) rfl rfl rfl ?_))
      exact ar (lu (s:={jH x mk j q with p8:=h}) (a:=none) (n:=0) (c:=0) rfl rfl (Y.stored f.z rfl {jH x mk j q with p8:=h} none 0 0)) rfl (uD f (by unfold oh;rw[aj (by rw[r];decide),aj (by rw[r];decide),aj (by rw[r];decide),aq r.out,aj b8.out,aq (by rw[a9];exact a1),Q]) b9 (by omega) (lD _))
   .go_wp2_with(first
     |(refine gO f.s rfl (.tmp 3) rfl rfl ?_)
     |(refine hE {jH x mk j q with p8:=h} none 0 0 f.z rfl rfl (.tmp 2) (.tmp 148) rfl rfl rfl ?_))
    exact ar (lu (s:={jH x mk j q with p8:=h}) (a:=none) (n:=0) (c:=0) rfl rfl (Y.stored f.z rfl {jH x mk j q with p8:=h} none 0 0)) rfl (uD f (by unfold oh;rw[aj (by rw[r];simpa using n4),aj (by rw[r];simpa using n5),aj (by rw[r];simpa using n6),aj (by rw[r];simpa using n7),Q]) b9 (by omega) (lD _))
