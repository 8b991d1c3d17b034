import Derived.Test.YtgohdcccfkjooaaGreatDoorQAK
namespace Go.Proofs.YtgohdcccfkjooaaGreatDoor
set_option linter.all false
set_option maxRecDepth 100000
set_option maxHeartbeats 1600000
open Go.Proofs.Tryz Go.RowKit
def tT(g:jQ)(L:Int):Nat->Rat
 |0=>mkRat 1 1
 |i+1=>tT g L i+pT g (2*i)*kN L 1/(kN L 1+mkRat (-(g.co (2*i+1))) 1000000000)
def wk(g:jQ)(L:Int):Nat->Rat
 |0=>pT g 0+pT g 1*kN L 1
 |i+1=>if i<2 then pT g 0+pT g 1*kN L 1 else wk g L i+pT g i*kN L (1-(i:Int))
def iL(g:jQ)(L:Int):Rat:=if g.form=2 then mr g L 3*mr g L 3 else if g.form=1 then tT g L 3 else wk g L 6
def jQ.Far(g:jQ)(L:Int):Prop:=g.form=1-> ∀i,i<3->0<(kN L 1+mkRat (-(g.co (2*i+1))) 1000000000).num
def ml{w b g}(h:Nd w b g):w.cell? (J b)=some (.string g.nm)/\w.cell? ⟨b,1,none⟩=some (.int .i64 g.form)/\w.cell? ⟨b,2,none⟩=some (.int .i64 g.c0)/\w.cell? ⟨b,3,none⟩=some (.int .i64 g.c1)/\w.cell? ⟨b,4,none⟩=some (.int .i64 g.c2)/\w.cell? ⟨b,5,none⟩=some (.int .i64 g.c3)/\w.cell? ⟨b,6,none⟩=some (.int .i64 g.c4)/\w.cell? ⟨b,7,none⟩=some (.int .i64 g.c5)/\w.cell? ⟨b,8,none⟩=some (.int .i64 g.lo)/\w.cell? ⟨b,9,none⟩=some (.int .i64 g.hi):=by
 refine⟨?_,?_,?_,?_,?_,?_,?_,?_,?_,?_⟩ <;>exact(gA h _).trans rfl
def EM(g)(L:Int)(w)(hg:g.In)(h1:0<L)(h2:L<=2500000)(hf:g.form=2):
 Calls prog 188 #[.agg #[g.nm,g.form,g.c0,g.c1,g.c2,g.c3,g.c4,g.c5,g.lo,g.hi],L] w (Bh w (iL g L)):=by
 rw[show iL g L=mr g L 3*mr g L 3 by unfold iL;rw[aq hf]];obtain⟨i0,i1⟩:=iN w (.cells #[g.nm,g.form,g.c0,g.c1,g.c2,g.c3,g.c4,g.c5,g.lo,g.hi] 168) (.cells #[false,oN,false,oN] 243);have c:=iH (w:=w) (.cells #[g.nm,g.form,g.c0,g.c1,g.c2,g.c3,g.c4,g.c5,g.lo,g.hi] 168) (.cells #[false,oN,false,oN] 243);have N:=O i0;have P:=O i1;have b:=O c;have q:=uB hg h1 h2 3 (by omega);have Hf:=O hf;clear i0 i1 c hf
 go_enter func188,ntmps188
 go_upto_region 1 with fail
 refine jp (fun d=>Nd d w g/\pO d (w+1) false none 0 0 false none 0 0/\Below w w d) ⟨N,P,b⟩ ?_;clear N P b;rintro w0 ⟨z,a,m⟩;have lg:=TK z;have l0:=TK a;obtain⟨z0,j,E,F,z4,z5,z6,z7,z8,z9⟩:=ml z;have hf:=Hf.out;rw[hf]at j;have J0:=O a;have K:=O m;have r:=O (Cc g L w0 hg h1 h2);clear z a m;rw[hf]at r
 go_wp2_with fail
 refine r.mono ?_;clear r z0 j E F z4 z5 z6 z7 z8 z9;rintro e D ⟨s1,a1,m1,c1,b1,k1,d1,rfl,p,f⟩;generalize mr g L 3=R at*;have S:=kG.new p;have c:=(TH D D).alloc (aa _) (.cells #[s1,Z a1 m1 c1,false,Z b1 k1 d1] 243);have k:=O S;have b:=O (f.trans (c.mono f.size));clear p S c f
 go_upto_region 3 with fail
 refine jp (fun d=>kG d D R/\Below w0 w0 d) ⟨k,b⟩ ?_;clear k b;rintro w2 ⟨v5,n⟩;obtain⟨s5,T,m5,c5,W,k5,X,q5,y⟩:=v5;obtain⟨x0,x1,x2,x3⟩:=gL q5;have H:=O (nM R R 37 37 s5 s5 T W T W m5 k5 c5 X m5 k5 c5 X w2 y y q q (by omega));have l:=O n;clear n q5 y
 go_wp2_with fail
 refine H.mono ?_;clear H x0 x1 x2 x3;rintro e w3 ⟨C,s,B,u,t,A,x,rfl,f6,o⟩;have h:=l.trans (o.mono l.size);have a:=(h.block _ l0).trans J0;obtain⟨y0,y1,y2,y3⟩:=gL a;have e0:=gD a 0;have e1:=gD a 1;have e2:=gD a 2;have e3:=gD a 3;have Q:=O a;have F6:=O f6;have M:=O h;clear a f6 h o
 go_wp2_with fail
 have i:=kl (s':=C) (a':=s) (n':=B) (c':=u) (t':=false) (b':=t) (m':=A) (d':=x) Q;obtain⟨z0,j,E,F⟩:=gL i;refine ar (v:=.agg #[C,Z s B u,false,Z t A x]) ?_ rfl ?_
 .simp[results,results188,go_sem,z0,j,E,F]
 .exact⟨C,s,B,u,t,A,x,rfl,F6.putG Q,iR (K.trans (M.mono (by omega))) (bY _)⟩
theorem GX{g}(a:g.In){L}(h:0<L)(h2:L≤2500000):∀i,i≤6→Sz (12*i+14) (wk g L i)
 |0,_=>(((tf a 0).add ((tf a 1).mul (qb h h2 (by omega) (by omega))))).mono (by omega)
 |i+1,hi=>by
  unfold wk;split
  ·exact (((tf a 0).add ((tf a 1).mul (qb h h2 (by omega) (by omega))))).mono (by omega)
  ·exact ((GX a h h2 i (by omega)).add ((tf a i).mul (qb h h2 (by omega) (by omega)))).mono (by omega)
theorem Bi(g)(L:Int)(w)(hg:g.In)(h1:0<L)(h2:L≤2500000)(hf:(g.form==2)=false)(f4:(g.form==1)=false):
 Calls prog 188 #[.agg #[.string g.nm,g.form,g.c0,g.c1,g.c2,g.c3,g.c4,g.c5,g.lo,g.hi],L] w (Bh w (wk g L 6)):=by
 obtain ⟨i0,i1⟩:=iN w (.cells #[.string g.nm,g.form,g.c0,g.c1,g.c2,g.c3,g.c4,g.c5,g.lo,g.hi] 168) (.cells #[.bool false,oN,.bool false,oN] 243);have T:=iH (w:=w) (.cells #[.string g.nm,g.form,g.c0,g.c1,g.c2,g.c3,g.c4,g.c5,g.lo,g.hi] 168) (.cells #[.bool false,oN,.bool false,oN] 243);have I0:=O i0;have I1:=O i1;have S:=O T;have Hf:=O hf;have h6:=O f4;clear i0 i1 T hf f4
 go_enter func188,ntmps188
 go_upto_region 1 with fail
 refine jp (fun Q=>Nd Q w.heap.size g∧pO Q (w.heap.size+1) false none 0 0 false none 0 0∧Below w.heap.size w Q) ⟨I0.out,I1.out,S.out⟩ ?_;clear I0 I1 S;rintro w0 ⟨t,F,e9⟩;have lg:=TK t;have l0:=TK F;have z1:=(ml t).2.1;have hf:=Hf.out;have JG:=O t;have J0:=O F;have h3:=O e9;clear t F e9
 go_wp2_with fail
 refine (uA L 1 w0 h1 h2 (by omega) (by omega)).mono ?_;clear z1;rintro e w1 ⟨s1,a1,m1,c1,b1,k1,d1,rfl,g3,a2⟩;have g2:=qb h1 h2 (n:=1) (by omega) (by omega);have V6:=kG.new g3;have T:=(TH w1.heap.size w1).alloc (aa _) (.cells #[.bool s1,.slice a1 m1 c1,.bool false,.slice b1 k1 d1] 243);have l1:=a2.size;have R:=O V6;have S:=O (a2.trans (T.mono a2.size));clear g3 V6 T a2
 go_upto_region 5 with fail
 refine jp (fun Q=>kG Q w1.heap.size (kN L 1)∧Below w0.heap.size w0 Q) ⟨R.out,S.out⟩ ?_;clear R S;rintro w2 ⟨v6,a4⟩;have i7:=O l1;generalize w1.heap.size=g6 at*;clear l1;have t:=(a4.block _ lg).trans JG.out;have g7:=TK t;have l6:=v6.lt;obtain ⟨z0,z1,z2,z3,z4,z5,z6,z7,z8,z9⟩:=ml t;have i8:=h6.out;have R:=O v6;have x:=O a4;clear v6 a4 t;obtain ⟨s6,a6,m6,c6,b6,k6,d6,q6,N⟩:=R.out;obtain ⟨x0,x1,x2,H⟩:=gL q6;have Q6:=O q6;have F6:=O N;clear q6 N
 go_upto_region 13 with fail
 refine ic 12 [] [(11,10,(.cells #[.bool false,oN,.bool false,oN] 243))] [(0,true),(1,true),(2,true),(4,true),(5,true),(6,true),(8,true),(3,false),(7,false),(9,false),(10,false)] (by kernel_rfl) (by kernel_rfl) ⟨by simp,by simp,by (simp only [ct];exact ⟨⟨by omega,_,rfl,rfl,rfl,fun _ _=>rfl⟩,fun _ h=>by cases h⟩)⟩ (fun _ _ _ _ _ h=>h) (fun _ _ o _ _ h=>by cases o<;>exact h) ?_
 iterate 7
  refine gZ (v:=?_) rfl rfl (by rfl) ?_ ?_;rotate_left
  ·intro y s
   have y0:=(s.cell (p:=⟨g6,0,none⟩) l6).trans x0;have y1:=(s.cell (p:=⟨g6,1,none⟩) l6).trans x1;have y2:=(s.cell (p:=⟨g6,2,none⟩) l6).trans x2;have y3:=(s.cell (p:=⟨g6,3,none⟩) l6).trans H;have y4:=(s.cell (p:=⟨w.heap.size,2,none⟩) g7).trans z2;have y5:=(s.cell (p:=⟨w.heap.size,3,none⟩) g7).trans z3;go_simp
   with_reducible rfl
  try simp only [Act.put,V]
 clear x0 x1 x2 H z0 z1 z2 z3 z4 z5 z6 z7 z8 z9;have k0:=hg 0;have k1:=hg 1;have s0:=tf hg 0;have s1:=tf hg 1;have e0:mkRat g.c0 1000000000=pT g 0:=rfl;have e1:mkRat g.c1 1000000000=pT g 1:=rfl;rw [show g.co 0=g.c0 from rfl] at k0;rw [show g.co 1=g.c1 from rfl] at k1;have E0:=O e0;have E1:=O e1;clear e0 e1;refine iK rfl rfl (fun x1 b3 K C=>?_);go_simp;refine (pQ g.c0 1000000000 x1 (by omega) (by omega) (by omega) (by omega)).mono ?_;rintro e wa ⟨s7,a7,m7,c7,b7,k7,d7,rfl,j,D⟩;refine C _ _ D ?_;clear C K
 try simp only [Act.put,V]
 rw [E0.out] at j;have a:=(gJ (k:=1) b3).trans (D.mono (gJ (k:=1) b3).size);have F7:=O j;have z:=O a;clear j a D b3;refine iK rfl rfl (fun x2 b4 K C=>?_);go_simp;refine (pQ g.c1 1000000000 x2 (by omega) (by omega) (by omega) (by omega)).mono ?_;rintro e wb ⟨s8,a8,m8,c8,b8,k8,d8,rfl,f8,f⟩;refine C _ _ f ?_;clear C K
 try simp only [Act.put,V]
 rw [E1.out] at f8;have d:=b4.trans (f.mono b4.size);have a:=z.out.trans (d.mono z.out.size);have j:=F7.out.go d;have G8:=O f8;have G7:=O j;have m:=O a;clear f8 j a d f b4 F7 z;refine iK rfl rfl (fun H W K C=>?_);go_simp;refine (nM (pT g 1) (kN L 1) 2 9 s8 s6 a8 b8 a6 b6 m8 k8 c8 d8 m6 k6 c6 d6 H (G8.out.go W) ((F6.out.go m.out).go W) s1 g2 (by omega)).mono ?_;rintro e wc ⟨s9,a9,m9,c9,b9,k9,d9,rfl,f9,r⟩;refine C _ _ r ?_;clear C K
 try simp only [Act.put,V]
 have d:=W.trans (r.mono W.size);have a:=m.out.trans (d.mono m.out.size);have j:=G7.out.go d;have G9:=O f9;have H7:=O j;have A:=O a;clear f9 j a d r W G7 G8 m;refine iK rfl rfl (fun x4 X K C=>?_);go_simp;refine (tR (pT g 0) (pT g 1*kN L 1) 2 11 s7 s9 a7 b7 a9 b9 m7 k7 c7 d7 m9 k9 c9 d9 x4 (H7.out.go X) (G9.out.go X) s0 (s1.mul g2) (by omega)).mono ?_;rintro e wd ⟨g9,e5,g8,e7,e6,g4,e8,rfl,M,E⟩;refine C _ _ E ?_;clear C K
 try simp only [Act.put,V]
 rw [show pT g 0+pT g 1*kN L 1=wk g L 2 from rfl] at M;have d:=X.trans (E.mono X.size);have a:=A.out.trans (d.mono A.out.size);have d2:=O M;have J:=O a;clear M a d E X H7 G9 A;refine nV (l:=[_]) rfl (fun c w4 hC b0 f1=>?_)
 try simp only [Act.put,V]
 have g0:w2.heap.size≤c:=hC.1.1.1.1;have a3:=J.out.trans (b0.mono J.out.size);have M:=d2.out.go b0;have hz:pO w4 c false none 0 0 false none 0 0:=f1;have e4:kG ((((w4.setCell ⟨c,0,none⟩ (.bool g9)).setCell ⟨c,1,none⟩ (.slice e5 g8 e7)).setCell ⟨c,2,none⟩ (.bool false)).setCell ⟨c,3,none⟩ (.slice e6 g4 e8)) c (wk g L 2):=⟨_,_,_,_,_,_,_,kl hz,M.putG hz⟩;obtain ⟨x0,x1,x2,H⟩:=gL hz;have e0:=gD hz 0;have e1:=gD hz 1;have e2:=gD hz 2;have e3:=gD hz 3;have U:=x.out.trans (a3.mono x.out.size);have b2:w0.heap.size≤c:=af x.out.size g0;have a0:=O e4;have q:=O (iR (u:= .bool g9) (v:= .slice e5 g8 e7) (u2:= .bool false) (v2:= .slice e6 g4 e8) U b2);have d4:=O b2;clear e4 U b2 hz M a3 g0 f1 b0 hC d2 J
 go_upto_region 14 with fail
 refine jp (fun Q=>kG Q c (wk g L 2)∧Below w0.heap.size w0 Q) ⟨a0.out,q.out⟩ ?_;clear e0 e1 e2 e3 x0 x1 x2 H a0 q R x Q6 F6 l6;rintro w5 ⟨h0,f0⟩;have d3:=O h0;have x:=O f0;clear h0 f0;have h7:=d4;clear d4;generalize hg5:c=g5 at*;clear hg5
 go_wp2_with fail
 go_loopw [11] (fun iv wr=>∃k:Nat,iv= .int .i64 (k:Int)∧2≤k∧k≤6∧kG wr g5 (wk g L k)∧Below w0.heap.size w0 wr) (fun iv _=>6 - (intOf iv).toNat)
 case atStart=>exact ⟨2,rfl,by omega,by omega,d3.out,x.out⟩
 case round=>
  obtain ⟨k,rfl,i9,hk,v5,U⟩:=hrel;have q:=O U;have V5:=O v5;obtain ⟨s5,a5,m5,c5,b5,k5,d5,q5,B⟩:=v5;obtain ⟨x0,x1,x2,H⟩:=gL q5;have l5:=TK q5;have Q5:=O q5;have F5:=O B;clear U q5 B d3 x
  by_cases hlt:k<6
  ·have t:=(q.out.block _ lg).trans JG.out
   have i6:=TK t;have y2:=EL t (i:=k) (by omega);have f2:=hg k;generalize hcc:g.co k=ck at*;have h4:=O hcc
   have j1:(k:Int) <6:=by omega
   clear t hcc
   go_wp2_with fail
   refine gS 12 [(0,true),(1,true),(2,true),(3,true),(4,true),(6,true),(7,true),(8,true),(5,false),(9,false),(10,false),(11,false)] (by kernel_rfl) (by kernel_rfl) ?_
   iterate 8
    refine gU (v:=?_) rfl (fun _ _ _ h=>h) (by rfl) ?_ ?_;rotate_left
    ·intro y s
     have z0:=(s.cell (p:=⟨g5,0,none⟩) l5).trans x0;have z1:=(s.cell (p:=⟨g5,1,none⟩) l5).trans x1;have z2:=(s.cell (p:=⟨g5,2,none⟩) l5).trans x2;have z3:=(s.cell (p:=⟨g5,3,none⟩) l5).trans H;have z4:=(s.cell (p:=⟨w.heap.size,2+k,none⟩) i6).trans y2;go_simp
     with_reducible rfl
    try simp only [Act.put,V]
   clear x0 x1 x2 H y2;have i4:=GX hg h1 h2 k (by omega);have g1:=qb h1 h2 (n:=1 - (k:Int)) (by omega) (by omega);have f3:=tf hg k;have h8:=O (show wk g L (k+1)=wk g L k+pT g k*kN L (1 - (k:Int)) by conv=>lhs;unfold wk;rw [aj (by omega)]);have h5:=O (show mkRat ck 1000000000=pT g k by rw [← h4.out];rfl);generalize hrn:wk g L (k+1)=rn at*;have i2:=O hrn;clear hrn;generalize wk g L k=r5 at*;generalize hpk:kN L (1 - (k:Int))=pk at*;have h9:=O hpk;clear hpk;generalize pT g k=rc at*
   have i5:IntKind.i64.wrap (1 - (k:Int))=1 - (k:Int):=by simp [IntKind.wrap,IntKind.bits,IntKind.signed];omega
   try simp only [i5]
   refine gP rfl rfl (fun KK b=>?_);go_simp;refine (pQ ck 1000000000 _ (by have:=f2;omega) (by have:=f2;omega) (by omega) (by omega)).mono ?_;rintro e wa ⟨s6,a6,m6,c6,b6,k6,d6,rfl,N,D⟩;refine b _ _ D ?_;clear b KK
   try simp only [Act.put,V]
   rw [h5.out] at N;have P:Below wr.heap.size wr wa:=gJ (k:=1) D;have B:=F5.out.go P;clear D;have z:=O P;have F6:=O N;have G5:=O B;clear P N B;refine gP rfl rfl (fun KK b=>?_);go_simp;refine (uA L (1 - (k:Int)) _ h1 h2 (by omega) (by omega)).mono ?_;rintro e wb ⟨s7,a7,m7,c7,b7,k7,d7,rfl,j,f⟩;rw [h9.out] at j;refine b _ _ f ?_;clear b KK
   try simp only [Act.put,V]
   have B:=G5.out.go f;have N:=F6.out.go f;have a:=z.out.trans (f.mono z.out.size);have m:=O a;have G6:=O N;have G7:=O j;have K5:=O B;clear a N j B f z F6 G5;refine gP rfl rfl (fun KK b=>?_);go_simp;refine (nM rc pk 2 9 s6 s7 a6 b6 a7 b7 m6 k6 c6 d6 m7 k7 c7 d7 _ (by exact G6.out) (by exact G7.out) f3 g1 (by omega)).mono ?_;rintro e wc ⟨s8,a8,m8,c8,b8,k8,d8,rfl,f8,r⟩;refine b _ _ r ?_;clear b KK
   try simp only [Act.put,V]
   have B:=K5.out.go r;have a:=m.out.trans (r.mono m.out.size);have A:=O a;have G8:=O f8;have L5:=O B;clear a f8 B r m G6 G7 K5;refine gP rfl rfl (fun KK b=>?_);go_simp;refine (tR r5 (rc*pk) (12*k+14) 11 s5 s8 a5 b5 a8 b8 m5 k5 c5 d5 m8 k8 c8 d8 _ (by exact L5.out) (by exact G8.out) i4 (f3.mul g1) (by omega)).mono ?_;rintro e wd ⟨s9,a9,m9,c9,b9,k9,d9,rfl,f9,E⟩;refine b _ _ E ?_;clear b KK
   try simp only [Act.put,V]
   rw [← h8.out] at f9;have a:=A.out.trans (E.mono A.out.size);have p5:=(a.block _ l5).trans Q5.out;obtain ⟨x0,x1,x2,H⟩:=gL p5;have e0:=gD p5 0;have e1:=gD p5 1;have e2:=gD p5 2;have e3:=gD p5 3;have P5:=O p5;have F9:=O f9;have J:=O a;clear p5 f9 a E A G8 L5;refine iu rfl ?_
   go_wp2_with fail
   go_roundw
   case rel=>
    have V5:kG wr g5 r5:=⟨_,_,_,_,_,_,_,Q5.out,F5.out⟩;exact ⟨k+1,by go_num,by omega,by omega,by rw [i2.out];exact (V5.go J.out).put F9.out,iR (q.out.trans (J.out.mono q.out.size)) h7.out⟩
   case measure=>simp [intOf];omega
  ·have i3:k=6:=by omega
   subst i3;have F:=(q.out.block _ l0).trans J0.out;obtain ⟨y0,y1,y2,y3⟩:=gL F;have e0:=gD F 0;have e1:=gD F 1;have e2:=gD F 2;have e3:=gD F 3;have J1:=O F;clear F
   go_wp2_with fail
   have d0:=kl (s':=s5) (a':=a5) (n':=m5) (c':=c5) (t':=false) (b':=b5) (m':=k5) (d':=d5) J1.out;obtain ⟨z0,z1,z2,z3⟩:=gL d0;refine ar (v:= .agg #[.bool s5,.slice a5 m5 c5,.bool false,.slice b5 k5 d5]) ?_ rfl ?_
   ·simp [results,results188,go_sem,z0,z1,z2,z3]
   ·exact ⟨s5,a5,m5,c5,b5,k5,d5,rfl,F5.out.putG J1.out,iR (h3.out.trans (q.out.mono (by omega))) (bY _)⟩
def Di{g}(a:g.In){L}(h:0<L)(h2:L<=2500000)(hf:∀i,i<3->0<(kN L 1+mkRat (-(g.co (2*i+1))) 1000000000).num):∀i,i<=3->Sz (30*i+1) (tT g L i)
 |0,_=>Sz.mk (by omega) (by decide) (by decide)
 |i+1,hi=>by
  have c:=a (2*i+1);have b:Sz 3 (mkRat (-(g.co (2*i+1))) 1000000000):=Sz.mk (by omega) (by omega) (by omega);have hw:=qb h h2 (n:=1) (by omega) (by omega);exact((Di a h h2 hf i (by omega)).add ((((tf a (2*i)).mul hw).div (hw.add b) (hf i (by omega))))).mono (by omega)
def EN(g L w)(hg:g.In)(h1:0<L)(h2:L<=2500000)(hf:(g.form==2)=false)(i2:(g.form==1)=true)(t:∀i,i<3->0<(kN L 1+mkRat (-(g.co (2*i+1))) 1000000000).num):
 Calls prog 188 #[.agg #[g.nm,g.form,g.c0,g.c1,g.c2,g.c3,g.c4,g.c5,g.lo,g.hi],L] w (Bh w (tT g L 3)):=by
 obtain⟨i0,i1⟩:=iN w (.cells #[g.nm,g.form,g.c0,g.c1,g.c2,g.c3,g.c4,g.c5,g.lo,g.hi] 168) (.cells #[false,oN,false,oN] 243);have q:=iH (w:=w) (.cells #[g.nm,g.form,g.c0,g.c1,g.c2,g.c3,g.c4,g.c5,g.lo,g.hi] 168) (.cells #[false,oN,false,oN] 243);have I0:=O i0;have I1:=O i1;have A:=O q;have Hf:=O hf;have j2:=O i2;have a4:=O t;clear i0 i1 q hf i2 t
 go_enter func188,ntmps188
 go_upto_region 1 with fail
 refine jp (fun z=>Nd z w g/\pO z (w+1) false none 0 0 false none 0 0/\Below w w z) ⟨I0,I1,A⟩ ?_;clear I0 I1 A;rintro w0 ⟨x,E,h5⟩;have lg:=TK x;have l0:=TK E;have z1:=(ml x).2.1;have hf:=Hf.out;have JG:=O x;have J0:=O E;have i9:=O h5;clear x E h5
 go_wp2_with fail
 refine(uA L 1 w0 h1 h2 (by omega) (by omega)).mono ?_;clear z1;rintro e w1 ⟨s1,a1,m1,c1,b1,k1,d1,rfl,M,a5⟩;have b5:=qb h1 h2 (n:=1) (by omega) (by omega);have V6:=kG.new M;have q:=(TH w1 w1).alloc (aa _) (.cells #[s1,Z a1 m1 c1,false,Z b1 k1 d1] 243);have l1:=a5.size;have f:=O V6;have A:=O (a5.trans (q.mono a5.size));clear M V6 q a5
 go_upto_region 5 with fail
 refine jp (fun z=>kG z w1 (kN L 1)/\Below w0 w0 z) ⟨f,A⟩ ?_;clear f A;rintro w2 ⟨T,e6⟩;have p5:=O l1;generalize w1.heap.size=g6 at*;clear l1;have x:=(e6.block _ lg).trans JG;have n1:=TK x;have F:=T.lt;obtain⟨z0,z1,z2,z3,z4,z5,z6,z7,z8,z9⟩:=ml x;have q4:=j2.out;have f:=O T;have a0:=O e6;clear T e6 x
 go_upto_region 6 with fail
 clear z0 z1 z2 z3 z4 z5 z6 z7 z8 z9
 go_wp2_with fail
 refine(pQ 1 1 _ (by omega) (by omega) (by omega) (by omega)).mono ?_;rintro e w3 ⟨s1,a1,m1,c1,b1,k1,d1,rfl,M,H⟩;rw[show mkRat 1 1=tT g L 0 from rfl]at M;have V7:=kG.new M;have q:=(TH w3 w3).alloc (aa _) (.cells #[s1,Z a1 m1 c1,false,Z b1 k1 d1] 243);have i6:=(f.go H).go q;have P:=O V7;have h0:=O i6;have A:=O (a0.trans ((H.trans (q.mono H.size)).mono a0.size))
 have b4:g6≠w3.heap.size:=by have:=f.lt;have:=H.size;omega
 have b3:w0.heap.size<=w3.heap.size:=af a0.size H.size;have f3:=O b4;have f2:=O b3;clear M V7 q H i6 b4 b3 f a0
 go_upto_region 7 with fail
 refine jp (fun z=>kG z w3 (tT g L 0)/\kG z g6 (kN L 1)/\Below w0 w0 z) ⟨P,h0,A⟩ ?_;clear P h0 A;rintro w4 ⟨v7,T,h6⟩;generalize w3.heap.size=g7 at*;have P:=O v7;have f:=O T;have g5:=O h6;clear v7 T h6 F n1
 go_wp2_with fail
 go_loopw [8] (fun iv wr=>∃i:Nat,iv=.int .i64 ((2*i:Nat):Int)/\i<=3/\kG wr g7 (tT g L i)/\kG wr g6 (kN L 1)/\Below w0 w0 wr) (fun iv _=>6-(intOf iv).toNat)
 case atStart=>exact⟨0,rfl,aA _,P,f,g5⟩
 case round=>
  obtain⟨i,rfl,hi,v7,T,h8⟩:=hrel;have Q:=O h8;obtain⟨s7,a7,m7,c7,b7,k7,d7,q7,C⟩:=v7;obtain⟨x0,x1,x2,x3⟩:=gL q7;have l7:=TK q7;have Q7:=O q7;have F7:=O C;clear h8 q7 C P f g5
  by_cases hlt:i<3
  .obtain⟨s6,a6,m6,c6,b6,k6,d6,q6,f6⟩:=T
   obtain⟨y0,y1,y2,y3⟩:=gL q6;have F:=TK q6;have x:=(Q.block _ lg).trans JG;have f1:=TK x;have u0:=EL x (i:=2*i) (by omega);have u1:=EL x (i:=2*i+1) (by omega);have q1:=hg (2*i);have q2:=hg (2*i+1);have h9:=tf hg (2*i);have t:=a4 i hlt;have m2:=Di hg h1 h2 a4 i (by omega);have j3:=O (show tT g L (i+1)=tT g L i+pT g (2*i)*kN L 1/(kN L 1+mkRat (-(g.co (2*i+1))) 1000000000)from rfl);have j1:=O (show mkRat (g.co (2*i)) 1000000000=pT g (2*i)from rfl);have i3:Sz 3 (mkRat (-(g.co (2*i+1))) 1000000000):=Sz.mk (by omega) (by omega) (by omega);have i5:Sz 11 (pT g (2*i)*kN L 1):=(h9.mul b5).mono (by omega);have i4:Sz 13 (kN L 1+mkRat (-(g.co (2*i+1))) 1000000000):=(b5.add i3).mono (by omega);have m0:Sz 24 (pT g (2*i)*kN L 1/(kN L 1+mkRat (-(g.co (2*i+1))) 1000000000)):=(i5.div i4 t).mono (by omega);have g0:IntKind.i64.wrap (-(g.co (2*i+1)))= -(g.co (2*i+1)):=TM _ (by omega);generalize g.co (2*i+1)=ck at*;generalize g.co (2*i)=cj at*;generalize pT g (2*i)=rj at*;generalize hrn:tT g L (i+1)=rn at*;have j4:=O hrn;generalize tT g L i=r7 at*;generalize kN L 1=W at*;generalize hj:2*i=j at*;have Hj:=O hj;have Q6:=O q6;have F6:=O f6
   have q5:(j:Int) <6:=by omega
   have l4:(j:Int)+1<6:=by omega
   have l5:(0:Int)<=(j:Int)+1:=by omega
   have m3:IntKind.i64.wrap ((j:Int)+1)=((j+1:Nat):Int):=by rw[TM _ (by omega)];rfl
   clear hrn x q6 f6 hj
   go_upto_region 10 with fail
   refine ic 10 [] [(9,9,(.cells #[false,oN,false,oN] 243))] [(0,true),(1,true),(2,true),(3,true),(4,true),(5,true),(6,true),(7,false),(8,false)] (by kernel_rfl) (by kernel_rfl) ⟨by simp,by simp,by(simp only[ct];exact⟨⟨by omega,_,rfl,rfl,rfl,fun _ _=>rfl⟩,fun _ h=>by cases h⟩)⟩ (fun _ _ _ _ _ h=>h) (fun _ _ o _ _ h=>by cases o<;>exact h) ?_
   iterate 7
    refine gZ (v:=?_) rfl rfl (by rfl) ?_ ?_;rotate_left
    .intro y b
     have p0:=(b.cell (p:=J g6) F).trans y0;have p1:=(b.cell (p:=⟨g6,1,none⟩) F).trans y1;have p2:=(b.cell (p:=⟨g6,2,none⟩) F).trans y2;have p3:=(b.cell (p:=⟨g6,3,none⟩) F).trans y3;have p4:=(b.cell (p:=⟨w.heap.size,2+(j+1),none⟩) f1).trans u1;go_simp
     with_reducible rfl
    try simp only[V]
   clear y0 y1 y2 y3 u1 m3 l4 l5;have f4:=g0;refine iK rfl rfl (fun xa f0 K hK=>?_);go_simp;refine(pQ (-ck) 1000000000 xa (by omega) (by omega) (by omega) (by omega)).mono ?_;rintro e wa ⟨s8,a8,m8,c8,b8,k8,d8,rfl,f8,D⟩;refine hK _ _ D ?_;clear hK K
   try simp only[V]
   have s:=(gJ (k:=1) f0).trans (D.mono (gJ (k:=1) f0).size);have G8:=O f8;have a2:=O s;clear f8 s D f0 f4;refine iK rfl rfl (fun xb R K hK=>?_);go_simp;refine(tR W (mkRat (-ck) 1000000000) 9 3 s6 s8 a6 b6 a8 b8 m6 k6 c6 d6 m8 k8 c8 d8 xb ((F6.go a2).go R) (G8.go R) b5 i3 (by omega)).mono ?_;rintro e wb ⟨s9,a9,m9,c9,b9,k9,d9,rfl,m,r⟩;refine hK _ _ r ?_;clear hK K
   try simp only[V]
   have i7:=R.trans (r.mono R.size);have s:=a2.trans (i7.mono a2.size);have G9:=O m;have d2:=O s;clear m s i7 r R G8 a2;refine nV (l:=[_]) rfl (fun B w5 hC e7 h7=>?_)
   try simp only[V]
   have e9:wr.heap.size<=B:=hC.1.1;have b2:=d2.trans (e7.mono d2.size);have m:=G9.go e7;have S:pO w5 B false none 0 0 false none 0 0:=h7;have V9:kG ((((w5.setCell (J B) (.bool s9)).setCell ⟨B,1,none⟩ (.slice a9 m9 c9)).setCell ⟨B,2,none⟩ (.bool false)).setCell ⟨B,3,none⟩ (.slice b9 k9 d9)) B (W+mkRat (-ck) 1000000000):=⟨_,_,_,_,_,_,_,kl S,m.putG S⟩;obtain⟨p0,p1,p2,p3⟩:=gL S;have e0:=gD S 0;have e1:=gD S 1;have e2:=gD S 2;have e3:=gD S 3;have g4:=O V9;have g8:=O (iR (u:=.bool s9) (v:=.slice a9 m9 c9) (u2:=.bool false) (v2:=.slice b9 k9 d9) b2 e9);have p6:=O e9;clear V9 b2 S m e9 h7 e7 hC G9 d2
   go_upto_region 11 with fail
   refine jp (fun z=>kG z B (W+mkRat (-ck) 1000000000)/\Below wr wr z) ⟨g4,g8⟩ ?_;clear e0 e1 e2 e3 p0 p1 p2 p3 g4 g8;rintro w6 ⟨v9,a⟩;obtain⟨s9,a9,m9,c9,b9,k9,d9,q9,m⟩:=v9;obtain⟨p0,p1,p2,p3⟩:=gL q9;have l9:=TK q9;have y0:=(a.cell (p:=J g6) F).trans (gL Q6).1;have y1:=(a.cell (p:=⟨g6,1,none⟩) F).trans (gL Q6).2.1;have y2:=(a.cell (p:=⟨g6,2,none⟩) F).trans (gL Q6).2.2.1;have y3:=(a.cell (p:=⟨g6,3,none⟩) F).trans (gL Q6).2.2.2;have t0:=(a.cell (p:=J g7) l7).trans x0;have t1:=(a.cell (p:=⟨g7,1,none⟩) l7).trans x1;have t2:=(a.cell (p:=⟨g7,2,none⟩) l7).trans x2;have t3:=(a.cell (p:=⟨g7,3,none⟩) l7).trans x3;have t4:=(a.cell (p:=⟨w.heap.size,2+j,none⟩) f1).trans u0;have n6:g6<w6.heap.size:=ab F a.size;have n7:g7<w6.heap.size:=ab l7 a.size;have ng:w.heap.size<w6.heap.size:=ab f1 a.size;have F9:=O m;have d0:=O a;clear m a x0 x1 x2 x3 u0;refine gS 11 [(0,true),(1,true),(2,true),(3,true),(4,true),(6,true),(8,true),(5,false),(7,false),(9,false),(10,false)] (by kernel_rfl) (by kernel_rfl) ?_
   iterate 7
    refine gU (v:=?_) rfl (fun _ _ _ h=>h) (by rfl) ?_ ?_;rotate_left
    .intro y b
     have o0:=(b.cell (p:=J g6) n6).trans y0;have o1:=(b.cell (p:=⟨g6,1,none⟩) n6).trans y1;have o2:=(b.cell (p:=⟨g6,2,none⟩) n6).trans y2;have o3:=(b.cell (p:=⟨g6,3,none⟩) n6).trans y3;have o4:=(b.cell (p:=J g7) n7).trans t0;have o5:=(b.cell (p:=⟨g7,1,none⟩) n7).trans t1;have o6:=(b.cell (p:=⟨g7,2,none⟩) n7).trans t2;have o7:=(b.cell (p:=⟨g7,3,none⟩) n7).trans t3;have o8:=(b.cell (p:=J B) l9).trans p0;have o9:=(b.cell (p:=⟨B,1,none⟩) l9).trans p1;have r1:=(b.cell (p:=⟨B,2,none⟩) l9).trans p2;have r2:=(b.cell (p:=⟨B,3,none⟩) l9).trans p3;have r3:=(b.cell (p:=⟨w.heap.size,2+j,none⟩) ng).trans t4;go_simp
     with_reducible rfl
    try simp only[V]
   clear y0 y1 y2 y3 t0 t1 t2 t3 t4 p0 p1 p2 p3;refine gP rfl rfl (fun X c=>?_);go_simp;refine(pQ cj 1000000000 _ (by omega) (by omega) (by omega) (by omega)).mono ?_;rintro e wa ⟨n5,j5,n2,k2,j8,m4,k5,rfl,e4,D⟩;refine c _ _ D ?_;clear c X
   try simp only[V]
   rw[j1]at e4;have N:Below w6 w6 wa:=gJ (k:=1) D;have d:=d0.trans (N.mono d0.size);have f6:=F6.go d;have C:=F7.go d;have m:=F9.go N;have d3:=O d;have A6:=O f6;have A7:=O C;have A9:=O m;have g1:=O e4;clear D N d f6 C m e4 F9 d0;refine gP rfl rfl (fun X c=>?_);go_simp;refine(nM rj W 2 9 n5 s6 j5 j8 a6 b6 n2 m4 k2 k5 m6 k6 c6 d6 _ (by exact g1) (by exact A6) h9 b5 (by omega)).mono ?_;rintro e wb ⟨n8,j6,n3,k3,j9,m5,l2,rfl,h3,r⟩;refine c _ _ r ?_;clear c X
   try simp only[V]
   have d:=d3.trans (r.mono d3.size);have C:=A7.go r;have m:=A9.go r;have d4:=O d;have B7:=O C;have B9:=O m;have g2:=O h3;clear r d C m h3 A6 A7 A9 g1 d3;refine gP rfl rfl (fun X c=>?_);go_simp;refine(Cb (rj*W) (W+mkRat (-ck) 1000000000) 11 13 n8 s9 j6 j9 a9 b9 n3 m5 k3 l2 m9 k9 c9 d9 _ (by exact g2) (by exact B9) i5 i4 (by omega) t).mono ?_;rintro e wc ⟨n9,j7,n4,k4,k0,n0,l3,rfl,h4,b0⟩;refine c _ _ b0 ?_;clear c X
   try simp only[V]
   have d:=d4.trans (b0.mono d4.size);have C:=B7.go b0;have d5:=O d;have C7:=O C;have g3:=O h4;clear b0 d C h4 B7 B9 g2 d4;refine gP rfl rfl (fun X c=>?_);go_simp;refine(tR r7 (rj*W/(W+mkRat (-ck) 1000000000)) (30*i+1) 24 s7 n9 a7 b7 j7 k0 m7 k7 c7 d7 n4 n0 k4 l3 _ (by exact C7) (by exact g3) m2 m0 (by omega)).mono ?_;rintro e wd ⟨r4,p8,r0,q0,p9,q8,q3,rfl,e5,e8⟩;refine c _ _ e8 ?_;clear c X
   try simp only[V]
   rw[<- j3]at e5;have s:=d5.trans (e8.mono d5.size);have p7:=(s.block _ l7).trans Q7;obtain⟨x0,x1,x2,x3⟩:=gL p7;have e0:=gD p7 0;have e1:=gD p7 1;have e2:=gD p7 2;have e3:=gD p7 3;have P7:=O p7;have i8:=O e5;have a3:=O s;clear p7 e5 s e8 d5 C7 g3;refine iu rfl ?_
   go_wp2_with fail
   go_roundw
   case rel=>
    have V7:kG wr g7 r7:=⟨_,_,_,_,_,_,_,Q7,F7⟩;have V6:kG wr g6 W:=⟨_,_,_,_,_,_,_,Q6,F6⟩;exact⟨i+1,by have:=Hj.out;go_num,by omega,by rw[j4];exact(V7.go a3).put i8,(V6.go a3).other (V7.go a3) f3,iR (Q.trans (a3.mono Q.size)) f2⟩
   case measure=>have:=Hj.out;simp[intOf];omega
  .have l8:i=3:=by omega
   subst l8;have E:=(Q.block _ l0).trans J0;obtain⟨y0,y1,y2,y3⟩:=gL E;have e0:=gD E 0;have e1:=gD E 1;have e2:=gD E 2;have e3:=gD E 3;have J1:=O E;clear E
   go_wp2_with fail
   have f5:=kl (s':=s7) (a':=a7) (n':=m7) (c':=c7) (t':=false) (b':=b7) (m':=k7) (d':=d7) J1;obtain⟨z0,z1,z2,z3⟩:=gL f5;refine ar (v:=.agg #[s7,Z a7 m7 c7,false,Z b7 k7 d7]) ?_ rfl ?_
   .simp[results,results188,go_sem,z0,z1,z2,z3]
   .exact⟨s7,a7,m7,c7,b7,k7,d7,rfl,F7.putG J1,iR (i9.trans (Q.mono (by omega))) (bY _)⟩
def GY(g)(L:Int)(w)(d:g.In)(h1:0<L)(h2:L<=2500000)(c:g.Far L):
 Calls prog 188 #[.agg #[g.nm,g.form,g.c0,g.c1,g.c2,g.c3,g.c4,g.c5,g.lo,g.hi],L] w (Bh w (iL g L)):=by
 by_cases b:g.form=2
 .exact EM g L w d h1 h2 b
 .by_cases a:g.form=1
  .have:=EN g L w d h1 h2 (by simpa using b) (by simpa using a) (c a)
   unfold iL;rw[aj b,aq a];exact this
  .have:=Bi g L w d h1 h2 (by simpa using b) (by simpa using a)
   unfold iL;rw[aj b,aj a];exact this
def KG(r k s a b n m c d)(w:World)(h:QL w w s a n c b m d r)(hs:Sz k r)(hk:k<=599):
 Calls prog 189 #[.agg #[s,Z a n c,false,Z b m d]] w (iZ w (.tuple #[.int .i64 (oG r.num 0),oZ])):=by
 have hm:=h.m hs;have t:=(TH w w).alloc (aa _) (.cells #[s,Z a n c,false,Z b m d] 243);have S:pO (w.alloc (.cells #[s,Z a n c,false,Z b m d] 243)) w s a n c false b m d:=TL w _;have M:=O (h.go t);have B:=O t;have P:=O S;clear t S h
 go_enter func189,ntmps189
 go_upto_region 1 with fail
 refine jp (fun z=>pO z w s a n c false b m d/\QL z z s a n c b m d r/\Below w w z) ⟨P,M,B⟩ ?_;clear P M B;rintro w0 ⟨q,f,E⟩;obtain⟨A,x1,x2,L⟩:=gL q;have l0:=TK q;have F:=O f;have Q:=O q;have o:=O E;clear f q E
 go_wp2_with fail
 refine(mF r s a b n m c d w0 F (by omega)).mono ?_;rintro e W ⟨rfl,l⟩;clear A x1 x2 L;have q:=(l.block _ l0).trans Q;obtain⟨A,x1,x2,L⟩:=gL q;have l1:=TK q;have F1:=O (F.go l);have C:=O (o.trans (l.mono o.size));clear q l F o Q
 go_upto_region 3 with fail
 refine gS 4 [(0,true),(1,true),(2,false),(3,false)] (by kernel_rfl) (by kernel_rfl) ?_
 iterate 2
  refine gU (v:=?_) rfl (fun _ _ _ h=>h) (by rfl) ?_ ?_;rotate_left
  .intro y T
   have y0:=(T.cell (p:=J (w.heap.size)) l1).trans A;have y1:=(T.cell (p:=⟨w.heap.size,1,none⟩) l1).trans x1;go_simp
   with_reducible rfl
  try simp only[V]
 clear A x1 x2 L;refine gP rfl rfl (fun K i=>?_);go_simp;refine(oT 0 _ (by omega) (by omega)).mono ?_;rintro e X ⟨s2,a2,n2,c2,rfl,H,u,-⟩;refine i _ _ u ?_;clear i K
 try simp only[V]
 have g:Below W W X:=gJ (k:=1) u;have R:=F1.n.go g;have j:=C.trans (g.mono C.size);have F2:=O R;have L2:=O H;have D:=O j;clear u g R H j;refine gP rfl rfl (fun K i=>?_);go_simp;refine(uy s s2 r.num 0 a a2 n n2 c c2 X F2 L2).mono ?_;rintro e w3 ⟨rfl,x⟩;refine i _ _ x ?_;clear i K
 try simp only[V]
 have N:=O (D.trans (x.mono D.size));clear x;refine iu rfl ?_
 go_wp2_with fail
 refine ar (v:=.tuple #[.int .i64 (oG r.num 0),oZ]) ?_ rfl ⟨rfl,N⟩;simp[results,results189,go_sem]
def Cd(r k s a b n m c d)(w:World)(h:QL w w s a n c b m d r)(z:Sz k r)(y:k<=599):
 Calls prog 153 #[.agg #[s,Z a n c,false,Z b m d]] w (iZ w (.int .i64 (oG r.num 0))):=by
 have g:=(TH w w).alloc (aa _) (.cells #[s,Z a n c,false,Z b m d] 243);have x:pO (w.alloc (.cells #[s,Z a n c,false,Z b m d] 243)) w s a n c false b m d:=TL w _;have t:=O (h.go g);have j:=O g;have v:=O x;clear g x h
 go_enter func153,ntmps153
 go_upto_region 1 with fail
 refine jp (fun i=>pO i w s a n c false b m d/\QL i i s a n c b m d r/\Below w w i) ⟨v,t,j⟩ ?_;clear v t j;rintro w0 ⟨q,f,o⟩;obtain⟨A,x1,x2,B⟩:=gL q;have F:=O f;have l:=O o;clear f q o
 go_wp2_with fail
 refine(KG r k s a b n m c d w0 F z y).mono ?_;rintro e C ⟨rfl,p⟩;have u:=O (l.trans (p.mono l.size));clear p A x1 x2 B
 go_wp2_with fail
 go_ret;exact⟨rfl,u⟩
def PB{N w a n c zs g s a' n' c'}(h:SL N w a n c zs)(l:td w g s a' n' c'):∀b off,a=some ⟨b,off,none⟩->0<n->b≠g:=by
 rintro b off e f rfl;obtain⟨b1,i,d,_,j⟩:=h.at f;rw[e]at d;cases d;have h0:=j 0 f;rw[gA l]at h0
 match hoff:off+0,h0 with
 |0,h0=>simp at h0
 |1,h0=>simp at h0
 |k+2,h0=>simp at h0
def re{w:World}{s a n c z g s' a' n' c' u v}(h:LG w w s a n c z)(d:td w g s' a' n' c'):
 LG ((w.setCell (J g) u).setCell ⟨g,1,none⟩ v).heap.size ((w.setCell (J g) u).setCell ⟨g,1,none⟩ v) s a n c z:=by
 have b:=PB h.2.1 d;have:=(h.setCell (J g) u b).setCell ⟨g,1,none⟩ v b;simpa using this
def nD{B w w' g u v}(h:Below B w w')(a:B<=g):Below B w ((w'.setCell (J g) u).setCell ⟨g,1,none⟩ v):=qB (qB h a) a
def uO(w:World)(g:Nat)(z:Int):Prop:=∃s a n c,td w g s a n c/\LG w w s a n c z
def uO.new{w:World}{s a n c z}(h:LG w w s a n c z):uO (w.alloc (.cells #[s,Z a n c] 221)) w z:=
 ⟨s,a,n,c,TL w _,h.go ((TH _ _).alloc (aa _) _)⟩
def uO.put{w g z y s a n c}(h:uO w g y)(b:LG w w s a n c z):
 uO ((w.setCell (J g) (.bool s)).setCell ⟨g,1,none⟩ (.slice a n c)) g z:=by
 obtain⟨s',a',n',c',h1,h2⟩:=h;exact⟨s,a,n,c,pZ h1,re b h1⟩
def Nf(E)(x y:Nat)(a b n m c d)(w:World)(l:LG w w E a n c (x:Int))(p:LG w w false b m d (y:Int))(hy:0<y)(hm:m<=599):
 Calls prog 193 #[.agg #[E,Z a n c],.agg #[false,Z b m d]] w (tb w ((x/y:Nat):Int)):=by
 have X:E=false:=by rw[l.1];simp
 subst X;have g:=oF w (.cells #[false,Z a n c] 221) (.cells #[false,Z b m d] 221) (.cells #[false,oN] 221);obtain⟨i0,i1,i2⟩:=jh w (.cells #[false,Z a n c] 221) (.cells #[false,Z b m d] 221) (.cells #[false,oN] 221);have t:=O (l.go g);have u:=O (p.go g);have M:=O i0;have N:=O i1;have P:=O i2;have j:=O g;clear l p i0 i1 i2 g
 go_enter func193,ntmps193
 go_upto_region 1 with fail
 refine jp (fun f=>td f w false a n c/\td f (w+1) false b m d/\td f (w+2) false none 0 0/\LG f f false a n c (x:Int)/\LG f f false b m d (y:Int)/\Below w w f) ⟨M,N,P,t,u,j⟩ ?_;clear t u M N P j;rintro w0 ⟨j0,j1,h,l,p,C⟩;obtain⟨x0,x1,_,_⟩:=gQ j0;obtain⟨y0,y1,_,_⟩:=gQ j1;have l2:=TK h;have Q:=O h;have t:=O l;have u:=O p;have o:=O C;clear j0 j1 h l p C
 go_wp2_with fail
 refine(oO false false (x:Int) (y:Int) x y (aB _) (aB _) a b n m c d w0 t u hy hm).mono ?_;rintro e A ⟨s1,a1,i,c1,s2,a2,D,c2,rfl,h1,h2,q,f1,f2⟩;rw[show Bd false false (x/y)=((x/y:Nat):Int)from rfl]at h1
 have W:s2=false:=by rw[h2.1];exact aw (by unfold GN;simp;omega)
 subst W;clear x0 x1 y0 y1 h2 f2;obtain⟨S,T⟩:=iN A (.cells #[s1,Z a1 i c1] 221) (.cells #[false,Z a2 D c2] 221);have k:=iH (w:=A) (.cells #[s1,Z a1 i c1] 221) (.cells #[false,Z a2 D c2] 221);have F:=O S;have H:=O T;have K:=O k;have s:=O (h1.go k);have B:=O (q.trans (k.mono q.size));have F1:=O f1;clear S T k h1 q f1
 go_upto_region 2 with fail
 refine jp (fun f=>td f A s1 a1 i c1/\td f (A+1) false a2 D c2/\LG f f s1 a1 i c1 ((x/y:Nat):Int)/\Below w0 w0 f) ⟨F,H,s,B⟩ ?_;clear F H s B K;rintro w2 ⟨k1,k2,h1,r⟩;obtain⟨x0,x1,_,_⟩:=gQ k1;obtain⟨y0,y1,_,_⟩:=gQ k2;have h:=(r.block _ l2).trans Q;obtain⟨z0,z1,g0,g1⟩:=gQ h;have R:=O h;have s:=O h1;have L:=O r;clear k1 k2 h1 r h Q
 go_wp2_with fail
 have z:=pZ (s':=s1) (a':=a1) (n':=i) (c':=c1) R;obtain⟨q0,q1,_,_⟩:=gQ z;refine ar (v:=.agg #[s1,Z a1 i c1]) ?_ rfl ?_
 .simp[results,results193,go_sem,q0,q1]
 .exact⟨s1,a1,i,c1,rfl,re s R,nD (o.trans (L.mono o.size)) (by omega),F1.mono (by have:=o.size;omega)⟩
def Ce(r)(k x:Nat)(s a b n m c d)(w:World)(h:QL w w s a n c b m d r)(hs:Sz k r)(hk:k<=599)(hx:r.num=(x:Int)):
 Calls prog 155 #[.agg #[s,Z a n c,false,Z b m d]] w (S3 w ((x/r.den:Nat):Int)):=by
 have hm:=h.m hs;obtain⟨i0,i1⟩:=iN w (.cells #[s,Z a n c,false,Z b m d] 243) (.cells #[false,oN] 221);have g:=iH (w:=w) (.cells #[s,Z a n c,false,Z b m d] 243) (.cells #[false,oN] 221);have W:=O (h.go g);have D:=O g;have I0:=O i0;have I1:=O i1;clear g i0 i1 h
 go_enter func155,ntmps155
 go_upto_region 1 with fail
 refine jp (fun i=>pO i w s a n c false b m d/\td i (w+1) false none 0 0/\QL i i s a n c b m d r/\Below w w i) ⟨I0,I1,W,D⟩ ?_;clear I0 I1 W D;rintro w0 ⟨q,j,f,K⟩;obtain⟨B,x1,x2,P⟩:=gL q;have l0:=TK q;have l1:=TK j;have F:=O f;have Q:=O q;have t:=O K;have H:=O j;clear f q K j
 go_wp2_with fail
 refine(mF r s a b n m c d w0 F (by omega)).mono ?_;rintro e N ⟨rfl,l⟩;clear B x1 x2 P;obtain⟨B,x1,x2,P⟩:=gL ((l.block _ l0).trans Q);have f1:=F.go l;have fn:=f1.n;rw[hx]at fn;have L:=O ((l.block _ l1).trans H);have S:=O fn;have R:=O f1.d;have u:=O (t.trans (l.mono t.size));have a0:=O l.size;clear l F t Q H f1 fn
 go_wp2_with fail
 refine(Nf s x r.den a b n m c d N S R (bq r.den_nz) (by omega)).mono ?_;rintro e p ⟨s2,a2,o,c2,rfl,h2,y,f2⟩;clear B x1 x2 P;have g:=(TH p p).alloc (aa _) (.cells #[s2,Z a2 o c2] 221);have V4:td (p.alloc (.cells #[s2,Z a2 o c2] 221)) p s2 a2 o c2:=TL p _;have T:=O (h2.go g);have E:=O (y.trans (g.mono y.size));have C:=O V4;have F2:=O f2;have a1:=h2.2.2;clear h2 y V4 f2 g S R
 go_upto_region 4 with fail
 refine jp (fun i=>td i p s2 a2 o c2/\LG i i s2 a2 o c2 ((x/r.den:Nat):Int)/\Below N N i) ⟨C,T,E⟩ ?_;clear C T E;rintro w3 ⟨k1,h1,z⟩;obtain⟨B,x1,_,_⟩:=gQ k1;have M:=(z.block _ (TK L)).trans L;obtain⟨z0,z1,g0,g1⟩:=gQ M
 have a3:¬(600:Int) <(o:Int):=by omega
 have K2:=O M;have H1:=O h1;have X:=O z;clear k1 h1 z M L
 go_wp2_with fail
 have A:=pZ (s':=s2) (a':=a2) (n':=o) (c':=c2) K2;obtain⟨q0,q1,_,_⟩:=gQ A;refine ar (v:=.tuple #[.agg #[s2,Z a2 o c2],oZ]) ?_ rfl ?_
 .simp[results,results155,go_sem,q0,q1]
 .exact⟨s2,a2,o,c2,rfl,re H1 K2,nD (u.trans (X.mono u.size)) (by omega),F2.mono (by have:=u.size;omega)⟩
def S7(x q):4*(x*q)<=(x+q)*(x+q):=by
 obtain h|h:=Nat.le_total x q
 .obtain⟨e,rfl⟩:=gg h
  have:(x+(x+e))*(x+(x+e))=4*(x*(x+e))+e*e:=by grind
  omega
 .obtain⟨e,rfl⟩:=gg h
  have:((q+e)+q)*((q+e)+q)=4*((q+e)*q)+e*e:=by grind
  omega
def KH(a x)(b:0<x):a<((x+a/x)/2+1)*((x+a/x)/2+1):=by
 have h1:a<x*(a/x+1):=Nat.lt_mul_div_succ a b;generalize a/x=q at*;have h2:=S7 x (q+1)
 have h3:x+(q+1)<=2*((x+q)/2+1):=by omega
 generalize(x+q)/2+1=t at*;have c:=cB h3 h3
 have h5:2*t*(2*t)=4*(t*t):=by grind
 omega
def GZ(a x)(b:0<x)(h:x<=(x+a/x)/2):x*x<=a:=by
 have:x<=a/x:=by omega
 exact(Nat.le_div_iff_mul_le b).1 this
def Ng{a x s}(h1:x*x<=a)(h2:a<(x+1)*(x+1))(k1:s*s<=a)(b:a<(s+1)*(s+1)):x=s:=by
 obtain h|h|h:=Nat.lt_trichotomy x s
 .have:=cB (show x+1<=s from h) (show x+1<=s from h);omega
 .exact h
 .have:=cB (show s+1<=x from h) (show s+1<=x from h);omega
def HH(a x)(b:0<a)(c:0<x):0<(x+a/x)/2:=by
 obtain h|h:=dC x 2
 .obtain rfl:x=1:=by omega
  rw[Nat.div_one];omega
 .generalize a/x=q at*
  omega
def Nh{A x k}(c:A<1000000000^k)(e:x<=1000000000^(k/2+1))(d:1<=k)(a:k<=590):(ip (x+A/x)).length<=600:=by
 refine af (iB (k:=k+2) ?_) (by omega);have h1:A/x<=A:=dp _ _;have h2:(1000000000:Nat)^(k/2+1)<=1000000000^(k+1):=zH (by omega);have h3:(1000000000:Nat)^(k+2)=1000000000^(k+1)*1000000000:=bM _ _;have b:(1000000000:Nat)^(k+1)=1000000000^k*1000000000:=bM _ _;omega
def KI(A S:Nat)(s a n c)(w:World)(h:LG w w s a n c (A:Int))(h0:0<A)(hS:S*S<=A)(f2:A<(S+1)*(S+1))(hn:n<=590):
 Calls prog 197 #[.agg #[s,Z a n c]] w (QW w (S:Int)):=by
 have B:=mW h;rw[aB]at B
 have k7:s=false:=by rw[h.1];simp
 subst k7
 have l8:n≠0:=fun e=>by rw[e]at B;have:=jC.1 B.symm;omega
 have f1:A<1000000000^n:=by have:=sb A;rw[<- B]at this;exact this
 obtain⟨i0,i1⟩:=iN w (.cells #[false,Z a n c] 221) (.cells #[false,oN] 221);have d:=iH (w:=w) (.cells #[false,Z a n c] 221) (.cells #[false,oN] 221);have HL:=O (h.go d);have d8:=O d;have I0:=O i0;have I1:=O i1;have b3:=O f1;have i6:=O B;have HS:=O hS;have i4:=O f2;clear d i0 i1 h f1 B hS f2
 go_enter func197,ntmps197
 go_upto_region 1 with fail
 refine jp (fun b=>td b w false a n c/\td b (w+1) false none 0 0/\LG b b false a n c (A:Int)/\Below w w b) ⟨I0,I1,HL,d8⟩ ?_;clear I0 I1 HL d8;rintro w0 ⟨l,m,f,f3⟩;obtain⟨N,x1,_,_⟩:=gQ l;have l0:=TK l;have l1:=TK m;have Q:=O l;have R:=O m;have F:=O f;have b4:=O f3;clear l m f f3
 have k3:((n:Int)==0)=false:=by simp;omega
 have j4:IntKind.i64.wrap ((n:Int).tdiv 2)=((n/2:Nat):Int):=by
  rw[bL (by omega),TM _ (by omega)];omega
 have j5:IntKind.i64.wrap (((n/2:Nat):Int)+2)=((n/2+2:Nat):Int):=by
  rw[TM _ (by omega)];omega
 go_wp2_with(refine oE rfl (.tmp 18) (.tmp 18) 162 rfl underlying162 _ (n/2+2) rfl rfl (by omega) (by omega) ?_)
 intro w1 p f5;have d9:=O (show Below w0 w0 w1 from f5);clear f5 N x1 j4 j5 k3;have j7:∃j,n/2+2=j+1/\j=n/2+1:=⟨n/2+1,rfl,rfl⟩;obtain⟨j,hj,g4⟩:=j7;rw[hj]at p
 try rw[hj]
 have H:=O g4;have k2:IntKind.i64.wrap (j:Int)=(j:Int):=TM _ (by omega)
 have d3:IntKind.i64.wrap (((j+1:Nat):Int)-1)=(j:Int):=by rw[TM _ (by omega)];omega
 have j9:(j:Int) <(j:Int)+1:=by omega
 have P:=p.cell (j:=j) (by simp);have y1:=p.free j;have f9:=p.set j (by simp) 1;have M:Below w0 w0 (w1.setCell ⟨w0.heap.size,j,none⟩ (.int .i64 1)):=qB d9 (aa _)
 have c2:((List.replicate (j+1) (0:Int)).set j 1).length=j+1:=by simp
 have h4:val ((List.replicate (j+1) (0:Int)).set j 1)=((1000000000^j:Nat):Int):=by
  rw[Jj (by simp),uQ];simp
 have g9:mv ((List.replicate (j+1) (0:Int)).set j 1):=by
  intro i hi;rw[ah,cF]
  by_cases e:j=i
  .subst e;simp
  .rw[aj e]
   by_cases j6:i<j+1
   .simp[eR,j6]
   .simp at hi;omega
 have C:=f9.sl (c:=j+1) (by rw[c2];exact aa _);rw[c2]at C;generalize(List.replicate (j+1) (0:Int)).set j 1=zs at*;have K:=O C;have b9:=O h4;have e7:=O g9;have l:=(M.block _ l0).trans Q;have m:=(M.block _ l1).trans R;have L:=F.go M;have K0:=O l;have K1:=O m;have Fz:=O L;have e5:=O (b4.trans (M.mono b4.size));clear p f9 g4 M C h4 g9 Q R F b4 d9 l m L hj
 go_upto_region 5 with fail
 refine jp (fun b=>td b w false a n c/\td b (w+1) false none 0 0/\LG b b false a n c (A:Int)/\SL b b (J (w0.heap.size)) (j+1) (j+1) zs/\Below w w b) ⟨K0,K1,Fz,K,e5⟩ ?_;clear K0 K1 Fz K e5 P y1 j9 k2 d3;rintro w2 ⟨l,m,L,C,f6⟩;generalize w0.heap.size=g at*;have l0:=TK l;have l1:=TK m;have Q:=O l;have R:=O m;have F:=O L;have K:=O C;have b5:=O f6;clear l m L C f6
 go_wp2_with fail
 refine(nl false zs ((1000000000^j:Nat):Int) _ (j+1) (j+1) w2 K e7 (by have:=H.out;omega) (by rw[b9,aI];exact af (iB (k:=j+1) (Nat.pow_lt_pow_right (by omega) (by omega))) (by have:=H.out;omega)) (by rw[b9];rfl)).mono ?_;rintro e w3 ⟨s3,a3,n3,c3,rfl,h3,a0,-⟩;have V4:=uO.new h3;have d:=(TH w3 w3).alloc (aa _) (.cells #[s3,Z a3 n3 c3] 221);have t:=a0.trans (d.mono a0.size);have d7:=O V4;have o:=O t;have e6:=O a0.size;clear V4 d t a0 h3 K
 have j8:j+1<=599:=by have:=H.out;omega
 have f0:A<(1000000000^j+1)*(1000000000^j+1):=by
  have h1:=b3.out;have h2:(1000000000:Nat)^n<=1000000000^(j+j):=zH (by have:=H.out;omega);rw[dm]at h2;have h3:=cB (bY (1000000000^j)) (bY (1000000000^j));exact ab h1 (af h2 h3)
 have g3:0<(1000000000:Nat)^j:=cy (by omega);have l7:w.heap.size+1<w3.heap.size:=ab l1 e6;have k0:=(o.block _ l0).trans Q;have k1:=(o.block _ l1).trans R;have L:=F.go o;have K0:=O k0;have K1:=O k1;have Fz:=O L;have u:=O (b5.trans (o.mono b5.size));have i8:=O (fun(x:Nat)(hx:x<=1000000000^j)=>Nh (x:=x) b3 (by rw[<- H];exact hx) (by omega) hn);have j3:=O (fun(x:Nat)(hx:x<=1000000000^j)=>show(ip x).length<=599 from af (iB (k:=j+1) (cX hx (Nat.pow_lt_pow_right (by omega) (by omega)))) j8);clear k0 k1 L Q R F b5 o b3 i6 b9 e7 c2 l0 l1 e6;generalize(1000000000:Nat)^j=X at*
 go_wp2_with fail
 go_loopg [] X (fun k wr=>∃x:Nat,uO wr w3 (x:Int)/\td wr w false a n c/\td wr (w+1) false none 0 0/\LG wr wr false a n c (A:Int)/\0<x/\A<(x+1)*(x+1)/\x<=X/\x<=k/\Below w w wr)
 case atStart=>exact⟨X,d7,K0,K1,Fz,g3,f0,aa _,aa _,u⟩
 case round=>
  clear K0 K1 Fz d7 u f0 g3;obtain⟨x,v4,l,m,f,b2,g7,g8,m0,g0⟩:=hrel;obtain⟨s4,a4,n4,c4,r,z⟩:=v4
  have k8:s4=false:=by rw[z.1];simp
  subst k8;obtain⟨N,x1,_,_⟩:=gQ l;obtain⟨P,y1,_,_⟩:=gQ r
  have k4:n4<=599:=by have:=mW z;rw[aB]at this;rw[this];exact j3 x g8
  have b1:=i8 x g8;have l0:=TK l;have l1:=TK m;have l4:=TK r;have g6:=KH A x b2;have g5:=HH A x h0 b2;have g1:=GZ A x b2;have Q:=O l;have R:=O m;have F:=O f;have Q4:=O r;have F4:=O z;have u:=O g0;have i9:=O g6;have i7:=O g5;have i5:=O g1;have j2:=O g7;have d0:=O b1;clear l m f r z g0 g6 g5 g1 g7 b1
  go_wp2_with fail
  refine(oO false false (A:Int) (x:Int) A x (aB _) (aB _) a a4 n n4 c c4 _ (by exact F) (by exact F4) b2 k4).mono ?_;rintro e w5 ⟨s5,a5,n5,c5,s6,a6,n6,c6,rfl,h5,-,c0,-,-⟩;rw[show Bd false false (A/x)=((A/x:Nat):Int)from rfl]at h5;generalize A/x=q at*;obtain⟨e1,e2⟩:=iN w5 (.cells #[s5,Z a5 n5 c5] 221) (.cells #[s6,Z a6 n6 c6] 221);have d:=iH (w:=w5) (.cells #[s5,Z a5 n5 c5] 221) (.cells #[s6,Z a6 n6 c6] 221);have E1:=O e1;have H5:=O (h5.go d);have e0:=O (c0.trans (d.mono c0.size));clear e1 e2 h5 c0 d N x1 P y1
  go_upto_region 7 with fail
  refine jp (fun b=>td b w5 s5 a5 n5 c5/\LG b b s5 a5 n5 c5 ((q:Nat):Int)/\Below wr wr b) ⟨E1,H5,e0⟩ ?_;clear E1 H5 e0;rintro w6 ⟨k5,h5,a1⟩;obtain⟨N,x1,_,_⟩:=gQ k5;have r:=(a1.block _ l4).trans Q4;obtain⟨P,y1,_,_⟩:=gQ r;have z:=F4.go a1;have d5:=O z;have H5:=O h5;have b6:=O a1;clear k5 h5 a1 r z
  go_wp2_with fail
  refine(EJ false s5 (x:Int) ((q:Nat):Int) a4 a5 n4 n5 c4 c5 _ (by exact d5) (by exact H5) (by rw[show((x:Int)+((q:Nat):Int)).natAbs=x+q by omega];exact d0)).mono ?_;rintro e w7 ⟨s7,a7,n7,c7,rfl,T,f7⟩;have H7:=O T;have b7:=O (b6.trans (f7.mono b6.size));clear T f7 b6 H5 d5 N x1 P y1
  go_wp2_with fail
  refine(oT 2 _ (by omega) (by omega)).mono ?_;rintro e w8 ⟨s8,a8,n8,c8,rfl,h8,c1,-⟩
  have l3:s8=false:=by rw[h8.1];rfl
  subst l3;have T:=H7.go c1;rw[show(x:Int)+((q:Nat):Int)=((x+q:Nat):Int)by omega]at T
  have l2:s7=false:=by rw[T.1];simp<;>omega
  subst l2
  have k6:n8<=599:=by have:=mW h8;rw[this];exact af (iB (k:=1) (by decide)) (by omega)
  have d6:=O T;have H8:=O h8;have b8:=O (b7.trans (c1.mono b7.size));clear T h8 c1 b7 H7
  go_wp2_with fail
  refine(oO false false ((x+q:Nat):Int) 2 (x+q) 2 (aB _) rfl a7 a8 n7 n8 c7 c8 _ (by exact d6) (by exact H8) (by omega) k6).mono ?_;rintro e w9 ⟨s9,a9,n9,c9,i2,e8,h6,e9,rfl,h9,-,f8,-,-⟩;rw[show Bd false false ((x+q)/2)=(((x+q)/2:Nat):Int)from rfl]at h9;obtain⟨e1,e2⟩:=iN w9 (.cells #[s9,Z a9 n9 c9] 221) (.cells #[i2,Z e8 h6 e9] 221);have d:=iH (w:=w9) (.cells #[s9,Z a9 n9 c9] 221) (.cells #[i2,Z e8 h6 e9] 221);have D:=b8.trans (f8.mono b8.size);have E1:=O e1;have H9:=O (h9.go d);have e3:=O (D.trans (d.mono D.size));clear e1 e2 h9 f8 d D d6 H8 b8;generalize(x+q)/2=y at*
  go_upto_region 8 with fail
  refine jp (fun b=>td b w9 s9 a9 n9 c9/\LG b b s9 a9 n9 c9 (y:Int)/\Below wr wr b) ⟨E1,H9,e3⟩ ?_;clear E1 H9 e3;rintro wa ⟨W,h9,a2⟩;obtain⟨N,x1,_,_⟩:=gQ W;have r:=(a2.block _ l4).trans Q4;obtain⟨P,y1,_,_⟩:=gQ r;have l9:=TK W;have z:=F4.go a2;have K9:=O W;have H9:=O h9;have e4:=O a2;have G4:=O z;clear W h9 a2 r z
  go_wp2_with fail
  refine(uy s9 false (y:Int) (x:Int) a9 a4 n9 n4 c9 c4 wa H9 G4).mono ?_;rintro e wb ⟨rfl,b0⟩;clear N x1 P y1;have t:=e4.trans (b0.mono e4.size);have W:=(b0.block _ l9).trans K9;have r:=(t.block _ l4).trans Q4;have m:=(t.block _ l1).trans R;obtain⟨N,x1,_,_⟩:=gQ W;obtain⟨P,y1,y2,y3⟩:=gQ r;obtain⟨z0,z1,z2,z3⟩:=gQ m;have i3:=O (H9.go b0);have B4:=O (F4.go t);have BJ:=O m;have d4:=O r;have o:=O t;clear t W r m b0 H9 G4 K9
  by_cases l6:x<=y
  .have g2:decide (0<=oG (y:Int) (x:Int))=true:=by
    unfold oG;rw[aj (by omega)];split<;>simp
   have d2:¬oG (y:Int) (x:Int) <0:=by simpa using g2
   generalize oG (y:Int) (x:Int)=cz at*
   go_wp2_with fail
   have d1:=pZ (s':=false) (a':=a4) (n':=n4) (c':=c4) BJ;obtain⟨q0,q1,_,_⟩:=gQ d1;have l5:x=S:=Ng (i5 l6) j2 HS i4;refine ar (v:=.agg #[false,Z a4 n4 c4]) ?_ rfl ?_
   .simp[results,results197,go_sem,q0,q1]
   .rw[<- l5]
    exact⟨false,a4,n4,c4,rfl,re B4 BJ,nD (u.trans (o.mono u.size)) (by omega)⟩
  .have E:oG (y:Int) (x:Int)= -1:=by unfold oG;rw[aq (by omega)]
   have d2:oG (y:Int) (x:Int) <0:=by rw[E];decide
   have g2:decide (0<=oG (y:Int) (x:Int))=false:=by rw[E];rfl
   clear E;generalize oG (y:Int) (x:Int)=cz at*
   go_wp2_with fail
   go_roundg y
   case measure=>omega
   case rel=>
    have V4:uO wb w3 (x:Int):=⟨_,_,_,_,d4,B4⟩;have l:=(o.block _ l0).trans Q;have f:=F.go o;exact⟨y,V4.put i3,qi (by omega) l,qi (by omega) BJ,re f d4,i7,i9,by omega,aa _,nD (u.trans (o.mono u.size)) (by omega)⟩
def St(w:World)(z:Int)(e:Ending)(w':World):Prop:=
 ∃s a n c,e=.returned (.tuple #[.agg #[.bool s,Z a n c],oZ])/\LG w' w' s a n c z/\Below w w w'
def Cf(A S:Nat)(s a n c)(w:World)(h:LG w w s a n c (A:Int))(h0:0<A)(M:S*S<=A)(q:A<(S+1)*(S+1))(X:n<=590):
 Calls prog 158 #[.agg #[s,Z a n c]] w (St w (S:Int)):=by
 have N:s=false:=by rw[h.1];simp
 subst N;obtain⟨P,Q⟩:=iN w (.cells #[false,Z a n c] 221) (.cells #[false,oN] 221);have g:=iH (w:=w) (.cells #[false,Z a n c] 221) (.cells #[false,oN] 221);have z:=O (h.go g);have m:=O g;have D:=O P;have E:=O Q;have W:=O M;have B:=O q;clear g P Q h M q
 go_enter func158,ntmps158
 go_upto_region 1 with fail
 refine jp (fun j=>td j w false a n c/\td j (w+1) false none 0 0/\LG j j false a n c (A:Int)/\Below w w j) ⟨D,E,z,m⟩ ?_;clear D E z m;rintro w0 ⟨l,t,f,r⟩;obtain⟨y,x1,_,_⟩:=gQ l;have l0:=TK l;have l1:=TK t;have H:=O l;have K:=O t;have F:=O f;have d:=O r;clear l t f r
 go_wp2_with fail
 refine(rN false (A:Int) a n c w0 F).mono ?_;rintro e w1 ⟨rfl,b⟩;clear y x1;obtain⟨y,x1,_,_⟩:=gQ ((b.block _ l0).trans H);have R:=O (F.go b);have p:=O ((b.block _ l1).trans K);have o:=O (d.trans (b.mono d.size));clear b H K F d
 go_wp2_with fail
 refine(KI A S false a n c w1 R h0 W B X).mono ?_;rintro e w2 ⟨s2,a2,x,c2,rfl,h2,i⟩;have u:=(i.block _ (TK p)).trans p;obtain⟨z0,z1,g0,g1⟩:=gQ u;have L:=O u;have T:=O h2;have C:=O (o.trans (i.mono o.size));clear u h2 i y x1
 go_wp2_with fail
 have k:=pZ (s':=s2) (a':=a2) (n':=x) (c':=c2) L;obtain⟨q0,q1,_,_⟩:=gQ k;refine ar (v:=.tuple #[.agg #[s2,Z a2 x c2],oZ]) ?_ rfl ?_
 .simp[results,results158,go_sem,q0,q1]
 .exact⟨s2,a2,x,c2,rfl,re T L,nD C (by omega)⟩
structure jQ.Ok (g:jQ):Prop where
 nm:kI g.nm=true
 sz:g.nm.size<=9223372036854775807
 mir:(g.nm.toList==[77,73,82,82,79,82])=false
 lo:300000<=g.lo
 lh:g.lo<=g.hi
 hi:g.hi<=2500000
 f1:1<=g.form
 f3:g.form<=3
 co:g.In
 sel:g.form=1-> ∀i,i<6->i%2=1->1000*g.co i<g.lo*g.lo
 cau:g.form=2-> ∀i,i<6->2<i->g.co i=0
def zJ(g:jQ)(w)(E:g.Ok):
 Calls prog 150 #[.agg #[g.nm,g.form,g.c0,g.c1,g.c2,g.c3,g.c4,g.c5,g.lo,g.hi]] w (iZ w (.bool true)):=by
 have M:Nd (w.alloc (.cells #[g.nm,g.form,g.c0,g.c1,g.c2,g.c3,g.c4,g.c5,g.lo,g.hi] 168)) w g:=TL w _;have n:=(TH w w).alloc (aa _) (.cells #[g.nm,g.form,g.c0,g.c1,g.c2,g.c3,g.c4,g.c5,g.lo,g.hi] 168);have y:=O M;have m:=O n;have a:=O E;clear M n E
 go_enter func150,ntmps150
 go_upto_region 1 with fail
 refine jp (fun N=>Nd N w g/\Below w w N) ⟨y,m⟩ ?_;clear y m;rintro w0 ⟨q,o⟩;obtain⟨z0,P,R,S,T,W,X,z7,z8,z9⟩:=ml q;have l0:=TK q;have Q:=O q;have f:=O o;clear q o
 go_wp2_with fail
 refine(pA g.nm w0 a.sz).mono ?_;rintro e w1 ⟨rfl,h⟩;have hn:=a.nm;have q:=(h.block _ l0).trans Q;clear z0 P R S T W X z7 z8 z9;obtain⟨z0,P,R,S,T,W,X,z7,z8,z9⟩:=ml q;have A:=O q;have v:=O (f.trans (h.mono f.size));have l:=a.mir
 have L:¬g.lo<300000:=by have:=a.lo;omega
 have K:¬g.hi<g.lo:=by have:=a.lh;omega
 have F:¬2500000<g.hi:=by have:=a.hi;omega
 have C:¬g.form<1:=by have:=a.f1;omega
 have D:¬3<g.form:=by have:=a.f3;omega
 clear q h f Q
 go_upto_region 3 with fail
 clear hn l L K F C D;have l1:=TK A;have a5:0<=g.lo*g.lo:=eH (by have:=a.lo;omega) (by have:=a.lo;omega);have a1:g.lo*g.lo<=2500000*2500000:=eI (by have:=a.lh;have:=a.hi;omega) (by have:=a.lh;have:=a.hi;omega) (by have:=a.lo;omega) (by omega);have a6:IntKind.i64.wrap (g.lo*g.lo)=g.lo*g.lo:=TM _ (by omega)
 go_wp2_with fail
 go_loopw [3,4] (fun t cv wr=>(∃k:Nat,t=.int .i64 (k:Int)/\k<=6)/\wr=w1) (fun t _ _=>6-(intOf t).toNat)
 case atStart=>exact⟨⟨0,rfl,by omega⟩,rfl⟩
 case round=>
  obtain⟨⟨k,rfl,hk⟩,rfl⟩:=hrel
  by_cases hlt:k<6
  .have u:=EL A (i:=k) hlt
   have hc:=a.co k;have c:=a.sel;have b:=a.cau
   have a4:(k:Int) <6:=by omega
   have a2:¬g.co k< -1000000000000:=by omega
   have a3:¬1000000000000<g.co k:=by omega
   have a7:IntKind.i64.wrap (1000*g.co k)=1000*g.co k:=TM _ (by omega)
   have r:g.form=1->k%2=1-> ¬g.lo*g.lo<=1000*g.co k:=fun h1 h2=>by have:=c h1 k hlt h2;omega
   have p:g.form=2->2<k->g.co k=0:=fun h1 h2=>b h1 k hlt h2
   have z:=O r;have x:=O p;clear c b r p hc;generalize g.co k=ck at*
   by_cases f1:g.form=1
   .have b1:(g.form==1)=true:=by simpa using f1
    have b2:(g.form==2)=false:=by rw[f1];rfl
    by_cases s:k%2=1
    .have j:(k:Int).tmod 2=1:=by rw[bu (by omega)];omega
     have a0:=z f1 s;clear f1
     go_wp2_with fail
     go_roundw
     case rel=>exact⟨⟨k+1,by go_num,by omega⟩,trivial⟩
     case measure=>simp[intOf];omega
    .have j:(k:Int).tmod 2=0:=by rw[bu (by omega)];omega
     clear f1
     go_wp2_with fail
     go_roundw
     case rel=>exact⟨⟨k+1,by go_num,by omega⟩,trivial⟩
     case measure=>simp[intOf];omega
   .have b1:(g.form==1)=false:=by simpa using f1
    by_cases d:g.form=2
    .have b2:(g.form==2)=true:=by simpa using d
     by_cases s:2<k
     .have j:2<(k:Int):=by omega
      have B:=x d s;clear f1 d;subst B
      go_wp2_with fail
      go_roundw
      case rel=>exact⟨⟨k+1,by go_num,by omega⟩,trivial⟩
      case measure=>simp[intOf];omega
     .have j:¬2<(k:Int):=by omega
      clear f1 d
      go_wp2_with fail
      go_roundw
      case rel=>exact⟨⟨k+1,by go_num,by omega⟩,trivial⟩
      case measure=>simp[intOf];omega
    .have b2:(g.form==2)=false:=by simpa using d
     clear f1 d
     go_wp2_with fail
     go_roundw
     case rel=>exact⟨⟨k+1,by go_num,by omega⟩,trivial⟩
     case measure=>simp[intOf];omega
  .have H:k=6:=by omega
   subst H
   go_wp2_with fail
   go_ret;exact⟨rfl,v⟩
end Go.Proofs.YtgohdcccfkjooaaGreatDoor
