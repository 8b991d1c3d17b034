import Derived.Test.YtgohdcccfkjooaaGreatDoorSAD
namespace Go.Proofs.YtgohdcccfkjooaaGreatDoor
set_option linter.all false
set_option maxRecDepth 100000
set_option maxHeartbeats 1600000
open Go.Proofs.Tryz Go.RowKit
def wj(w:World)(r:Rat)(e:Ending)(w':World):Prop:=
 ∃s a n c b m d,e=.returned (.tuple #[.agg #[.bool s,Z a n c,false,Z b m d],oZ])/\QL w' w' s a n c b m d r/\Below w w w'/\kS w a n/\kS w b m
def Bh(w:World)(r:Rat)(e:Ending)(w':World):Prop:=
 ∃s a n c b m d,e=.returned (.agg #[.bool s,Z a n c,false,Z b m d])/\QL w' w' s a n c b m d r/\Below w w w'
def QL.put{w:World}{s a n c b m d N M e r u v u2 v2}(h:QL w w s a n c b m d r)(f:mx N M a n)(g:mx N M b m)(h1:N<=e)(h2:e<M):
 QL ((((w.setCell (J e) u).setCell ⟨e,1,none⟩ v).setCell ⟨e,2,none⟩ u2).setCell ⟨e,3,none⟩ v2).heap.size ((((w.setCell (J e) u).setCell ⟨e,1,none⟩ v).setCell ⟨e,2,none⟩ u2).setCell ⟨e,3,none⟩ v2) s a n c b m d r:=⟨qY h.n f h1 h2,qY h.d g h1 h2⟩
def M6(k l k1 k2 s t a b a' b' n m c d n' m' c' d')(w:World)(h1:QL w w s a n c b m d k)(h2:QL w w t a' n' c' b' m' d' l)(N:Sz k1 k)(P:Sz k2 l)(hk:k1+k2<=599):
 Calls prog 194 #[.agg #[s,Z a n c,false,Z b m d],.agg #[t,Z a' n' c',false,Z b' m' d']] w (wj w (k*l)):=by
 have a7:=h1.m N;have a8:=h2.m P;obtain⟨i0,i1,i2⟩:=jh w (.cells #[s,Z a n c,false,Z b m d] 243) (.cells #[t,Z a' n' c',false,Z b' m' d'] 243) (.cells #[false,oN,false,oN] 243);have x:=oF w (.cells #[s,Z a n c,false,Z b m d] 243) (.cells #[t,Z a' n' c',false,Z b' m' d'] 243) (.cells #[false,oN,false,oN] 243);have I0:=O i0;have I1:=O i1;have I2:=O i2;have j:=O x;have Q:=O h1;have S:=O h2;have Z1:=O N;have Z2:=O P;have HR:=O (fun(W:World)(g1:QL W W s a n c b m d k)(g2:QL W W t a' n' c' b' m' d' l)=>KD k l k1 k2 s t a b a' b' n m c d n' m' c' d' W g1 g2 N P hk);clear i0 i1 i2 x h1 h2 N P;generalize k*l=R at*;go_enter func194,ntmps194;go_upto_region 1 with fail;refine jp (fun M=>pO M w s a n c false b m d/\pO M (w+1) t a' n' c' false b' m' d'/\pO M (w+2) false none 0 0 false none 0 0/\Below w w M) ⟨I0,I1,I2,j⟩ ?_;clear I0 I1 I2 j;rintro L ⟨K,j1,h,x⟩;have l0:=TK K;have l1:=TK j1;have l2:=TK h;obtain⟨c0,c1,c2,c3⟩:=gL K;have J0:=O K;have J1:=O j1;have J2:=O h;have j:=O x;clear K j1 h x;go_wp2_with fail;refine(mF k s a b n m c d _ (by exact Q.go j) (by omega)).mono ?_;rintro e w2 ⟨rfl,y⟩;obtain⟨e0,e1,e2,e3⟩:=gL ((y.block _ l1).trans J1);have o:=O y;clear y c0 c1 c2 c3;go_wp2_with fail;refine(mF l t a' b' n' m' c' d' _ (by exact(S.go j).go o) (by omega)).mono ?_;rintro e w3 ⟨rfl,a0⟩;have g:Below L L w3:=o.trans (a0.mono o.size);obtain⟨c0,c1,c2,c3⟩:=gL ((g.block _ l0).trans J0);obtain⟨d0,d1,d2,d3⟩:=gL ((g.block _ l1).trans J1);have f:=O g;clear a0 g e0 e1 e2 e3 o;go_wp2_with fail;refine(HR _ (by exact(Q.go j).go f) (by exact(S.go j).go f)).mono ?_;rintro e w4 ⟨C,p,r,c4,b4,q,u,rfl,B,A,a1,f4,g4⟩;have H:=B.2.2;have F:=A.2.2;have X:=O (show QL w4 w4 C p r c4 b4 q u R from⟨B,A⟩);have T:=O a1;have F4:=O f4;have G4:=O g4;clear B A a1 f4 g4 c0 c1 c2 c3 d0 d1 d2 d3;go_wp2_with fail;refine(zF C false p b4 r q c4 u w4 H F).mono ?_;rintro e w5 ⟨rfl,z⟩;have i:Below L L w5:=(f.trans (T.mono f.size)).trans (z.mono (by have:=f.size;have:=T.size;omega));have a6:=f.size;have h:=(i.block _ l2).trans J2;have a2:=O (X.go z);have D:=O i;clear z i X;obtain⟨d0,d1,d2,d3⟩:=gL h;have f0:=gD h 0;have f1:=gD h 1;have f2:=gD h 2;have f3:=gD h 3;have H2:=O h;clear h;go_wp2_with fail;have E:=kl (s':=C) (a':=p) (n':=r) (c':=c4) (t':=false) (b':=b4) (m':=q) (d':=u) H2;obtain⟨k0,a3,a5,k3⟩:=gL E;refine ar (v:=.tuple #[.agg #[C,Z p r c4,false,Z b4 q u],oZ]) ?_ rfl ?_
 .simp[results,results194,go_sem,k0,a3,a5,k3]
 .have o4:mx w (w+3) p r:=mx.ofFresh (F4.mono (by omega))
  have o5:mx w (w+3) b4 q:=mx.ofFresh (G4.mono (by omega));exact⟨C,p,r,c4,b4,q,u,rfl,a2.put o4 o5 (show w.heap.size<=w.heap.size+2 by omega) (by omega),iR (j.trans (D.mono (by omega))) (by omega),F4.mono (by omega),G4.mono (by omega)⟩
def M7(k l k1 k2 s t a b a' b' n m c d n' m' c' d')(w:World)(h1:QL w w s a n c b m d k)(h2:QL w w t a' n' c' b' m' d' l)(N:Sz k1 k)(P:Sz k2 l)(hk:k1+k2<=598):
 Calls prog 229 #[.agg #[s,Z a n c,false,Z b m d],.agg #[t,Z a' n' c',false,Z b' m' d']] w (wj w (k+l)):=by
 have a7:=h1.m N;have a8:=h2.m P;obtain⟨i0,i1,i2⟩:=jh w (.cells #[s,Z a n c,false,Z b m d] 243) (.cells #[t,Z a' n' c',false,Z b' m' d'] 243) (.cells #[false,oN,false,oN] 243);have x:=oF w (.cells #[s,Z a n c,false,Z b m d] 243) (.cells #[t,Z a' n' c',false,Z b' m' d'] 243) (.cells #[false,oN,false,oN] 243);have I0:=O i0;have I1:=O i1;have I2:=O i2;have j:=O x;have Q:=O h1;have S:=O h2;have Z1:=O N;have Z2:=O P;have HR:=O (fun(W:World)(g1:QL W W s a n c b m d k)(g2:QL W W t a' n' c' b' m' d' l)=>M4 k l k1 k2 s t a b a' b' n m c d n' m' c' d' W g1 g2 N P hk);clear i0 i1 i2 x h1 h2 N P;generalize k+l=R at*;go_enter func229,ntmps229;go_upto_region 1 with fail;refine jp (fun M=>pO M w s a n c false b m d/\pO M (w+1) t a' n' c' false b' m' d'/\pO M (w+2) false none 0 0 false none 0 0/\Below w w M) ⟨I0,I1,I2,j⟩ ?_;clear I0 I1 I2 j;rintro L ⟨K,j1,h,x⟩;have l0:=TK K;have l1:=TK j1;have l2:=TK h;obtain⟨c0,c1,c2,c3⟩:=gL K;have J0:=O K;have J1:=O j1;have J2:=O h;have j:=O x;clear K j1 h x;go_wp2_with fail;refine(mF k s a b n m c d _ (by exact Q.go j) (by omega)).mono ?_;rintro e w2 ⟨rfl,y⟩;obtain⟨e0,e1,e2,e3⟩:=gL ((y.block _ l1).trans J1);have o:=O y;clear y c0 c1 c2 c3;go_wp2_with fail;refine(mF l t a' b' n' m' c' d' _ (by exact(S.go j).go o) (by omega)).mono ?_;rintro e w3 ⟨rfl,a0⟩;have g:Below L L w3:=o.trans (a0.mono o.size);obtain⟨c0,c1,c2,c3⟩:=gL ((g.block _ l0).trans J0);obtain⟨d0,d1,d2,d3⟩:=gL ((g.block _ l1).trans J1);have f:=O g;clear a0 g e0 e1 e2 e3 o;go_wp2_with fail;refine(HR _ (by exact(Q.go j).go f) (by exact(S.go j).go f)).mono ?_;rintro e w4 ⟨C,p,r,c4,b4,q,u,rfl,B,A,a1,f4,g4⟩;have H:=B.2.2;have F:=A.2.2;have X:=O (show QL w4 w4 C p r c4 b4 q u R from⟨B,A⟩);have T:=O a1;have F4:=O f4;have G4:=O g4;clear B A a1 f4 g4 c0 c1 c2 c3 d0 d1 d2 d3;go_wp2_with fail;refine(zF C false p b4 r q c4 u w4 H F).mono ?_;rintro e w5 ⟨rfl,z⟩;have i:Below L L w5:=(f.trans (T.mono f.size)).trans (z.mono (by have:=f.size;have:=T.size;omega));have a6:=f.size;have h:=(i.block _ l2).trans J2;have a2:=O (X.go z);have D:=O i;clear z i X;obtain⟨d0,d1,d2,d3⟩:=gL h;have f0:=gD h 0;have f1:=gD h 1;have f2:=gD h 2;have f3:=gD h 3;have H2:=O h;clear h;go_wp2_with fail;have E:=kl (s':=C) (a':=p) (n':=r) (c':=c4) (t':=false) (b':=b4) (m':=q) (d':=u) H2;obtain⟨k0,a3,a5,k3⟩:=gL E;refine ar (v:=.tuple #[.agg #[C,Z p r c4,false,Z b4 q u],oZ]) ?_ rfl ?_
 .simp[results,results229,go_sem,k0,a3,a5,k3]
 .have o4:mx w (w+3) p r:=mx.ofFresh (F4.mono (by omega))
  have o5:mx w (w+3) b4 q:=mx.ofFresh (G4.mono (by omega));exact⟨C,p,r,c4,b4,q,u,rfl,a2.put o4 o5 (show w.heap.size<=w.heap.size+2 by omega) (by omega),iR (j.trans (D.mono (by omega))) (by omega),F4.mono (by omega),G4.mono (by omega)⟩
def nM(p q k1 D s t a b a' b' n m c d n' m' c' d')(w:World)(h1:QL w w s a n c b m d p)(h2:QL w w t a' n' c' b' m' d' q)(z1:Sz k1 p)(z2:Sz D q)(hk:k1+D<=599):
 Calls prog 156 #[.agg #[s,Z a n c,false,Z b m d],.agg #[t,Z a' n' c',false,Z b' m' d']] w (Bh w (p*q)):=by
 obtain⟨W,X,i2⟩:=jh w (.cells #[s,Z a n c,false,Z b m d] 243) (.cells #[t,Z a' n' c',false,Z b' m' d'] 243) (.cells #[false,oN,false,oN] 243);have u:=oF w (.cells #[s,Z a n c,false,Z b m d] 243) (.cells #[t,Z a' n' c',false,Z b' m' d'] 243) (.cells #[false,oN,false,oN] 243);have P:=O i2;have C:=O u;have I0:=O W;have I1:=O X;have L:=O (M6 p q k1 D s t a b a' b' n m c d n' m' c' d' _ (h1.go u) (h2.go u) z1 z2 hk);clear W X i2 u h1 h2 z1 z2;generalize p*q=R at*;go_enter func156,ntmps156;go_wp2_with fail;refine L.mono ?_;rintro e g ⟨r,h,j,c4,b4,i,l,rfl,B,k,S,T⟩
 have a2:w.heap.size+3<=g.heap.size:=by have:=k.size;simp at this;omega
 have f:=(k.block (w+2) (by simp)).trans P;have A:Below w w g:=C.trans (k.mono C.size);have E:kS (w+3) h j:=S.mono (by simp);have F:kS (w+3) b4 i:=T.mono (by simp);have N:=O B;have Q:=O f;have M:=O A;have H:=O E;have K:=O F;clear B k S T f A E F I0 I1 P C L;go_upto_region 2 with fail;have z:=(TH g g).alloc (aa _) (.cells #[r,Z h j c4,false,Z b4 i l] 243);refine jp (fun wx=>pO wx g r h j c4 false b4 i l/\Below g g wx) ⟨TL g _,z⟩ ?_;clear z;rintro w2 ⟨h5,o⟩;obtain⟨c0,c1,c2,c3⟩:=gL h5;have f:=(o.block _ (TK Q)).trans Q;obtain⟨d0,d1,d2,d3⟩:=gL f;have f0:=gD f 0;have f1:=gD f 1;have f2:=gD f 2;have f3:=gD f 3;have H2:=O f;have y:=O o;clear f h5 o;go_wp2_with fail;have x:=kl (s':=r) (a':=h) (n':=j) (c':=c4) (t':=false) (b':=b4) (m':=i) (d':=l) H2;obtain⟨k0,a0,a1,k3⟩:=gL x;refine ar (v:=.agg #[r,Z h j c4,false,Z b4 i l]) ?_ rfl ?_
 .simp[results,results156,go_sem,k0,a0,a1,k3]
 .have o4:mx w (w+3) h j:=mx.ofFresh H
  have o5:mx w (w+3) b4 i:=mx.ofFresh K;exact⟨r,h,j,c4,b4,i,l,rfl,(N.go y).put o4 o5 (show w.heap.size<=w.heap.size+2 by omega) (by omega),iR (M.trans (y.mono (by omega))) (by omega)⟩
def tR(p q k1 D s t a b a' b' n m c d n' m' c' d')(w:World)(h1:QL w w s a n c b m d p)(h2:QL w w t a' n' c' b' m' d' q)(z1:Sz k1 p)(z2:Sz D q)(hk:k1+D<=598):
 Calls prog 190 #[.agg #[s,Z a n c,false,Z b m d],.agg #[t,Z a' n' c',false,Z b' m' d']] w (Bh w (p+q)):=by
 obtain⟨W,X,i2⟩:=jh w (.cells #[s,Z a n c,false,Z b m d] 243) (.cells #[t,Z a' n' c',false,Z b' m' d'] 243) (.cells #[false,oN,false,oN] 243);have u:=oF w (.cells #[s,Z a n c,false,Z b m d] 243) (.cells #[t,Z a' n' c',false,Z b' m' d'] 243) (.cells #[false,oN,false,oN] 243);have P:=O i2;have C:=O u;have I0:=O W;have I1:=O X;have L:=O (M7 p q k1 D s t a b a' b' n m c d n' m' c' d' _ (h1.go u) (h2.go u) z1 z2 hk);clear W X i2 u h1 h2 z1 z2;generalize p+q=R at*;go_enter func190,ntmps190;go_wp2_with fail;refine L.mono ?_;rintro e g ⟨r,h,j,c4,b4,i,l,rfl,B,k,S,T⟩
 have a2:w.heap.size+3<=g.heap.size:=by have:=k.size;simp at this;omega
 have f:=(k.block (w+2) (by simp)).trans P;have A:Below w w g:=C.trans (k.mono C.size);have E:kS (w+3) h j:=S.mono (by simp);have F:kS (w+3) b4 i:=T.mono (by simp);have N:=O B;have Q:=O f;have M:=O A;have H:=O E;have K:=O F;clear B k S T f A E F I0 I1 P C L;go_upto_region 2 with fail;have z:=(TH g g).alloc (aa _) (.cells #[r,Z h j c4,false,Z b4 i l] 243);refine jp (fun wx=>pO wx g r h j c4 false b4 i l/\Below g g wx) ⟨TL g _,z⟩ ?_;clear z;rintro w2 ⟨h5,o⟩;obtain⟨c0,c1,c2,c3⟩:=gL h5;have f:=(o.block _ (TK Q)).trans Q;obtain⟨d0,d1,d2,d3⟩:=gL f;have f0:=gD f 0;have f1:=gD f 1;have f2:=gD f 2;have f3:=gD f 3;have H2:=O f;have y:=O o;clear f h5 o;go_wp2_with fail;have x:=kl (s':=r) (a':=h) (n':=j) (c':=c4) (t':=false) (b':=b4) (m':=i) (d':=l) H2;obtain⟨k0,a0,a1,k3⟩:=gL x;refine ar (v:=.agg #[r,Z h j c4,false,Z b4 i l]) ?_ rfl ?_
 .simp[results,results190,go_sem,k0,a0,a1,k3]
 .have o4:mx w (w+3) h j:=mx.ofFresh H
  have o5:mx w (w+3) b4 i:=mx.ofFresh K;exact⟨r,h,j,c4,b4,i,l,rfl,(N.go y).put o4 o5 (show w.heap.size<=w.heap.size+2 by omega) (by omega),iR (M.trans (y.mono (by omega))) (by omega)⟩
def KE(x)(y:Nat)(s a b n m c d)(w:World)(ha:LG w w s a n c x)(p:LG w w false b m d (y:Int))(hy:0<y)(hm:m<=599):
 Calls prog 235 #[.agg #[s,Z a n c],.agg #[false,Z b m d]] w (wj w (mkRat x y)):=by
 have a3:((m:Int)==0)=false:=by
  have:=mW p;rw[aB]at this
  have h0:m≠0:=fun e=>by rw[e]at this;have:=jC.1 this.symm;omega
  simp;omega
 obtain⟨i0,i1,i2⟩:=jh w (.cells #[s,Z a n c] 221) (.cells #[false,Z b m d] 221) (.cells #[false,oN,false,oN] 243);have o:=oF w (.cells #[s,Z a n c] 221) (.cells #[false,Z b m d] 221) (.cells #[false,oN,false,oN] 243);have W:=O i0;have X:=O i1;have I2:=O i2;have j:=O o;have R:=O ha;have S:=O p;clear i0 i1 i2 o ha p;go_enter func235,ntmps235;go_upto_region 1 with fail;refine jp (fun E=>td E w s a n c/\td E (w+1) false b m d/\pO E (w+2) false none 0 0 false none 0 0/\Below w w E) ⟨W,X,I2,j⟩ ?_;clear W X I2 j;rintro D ⟨B,M,h,o⟩;have l0:=TK B;have l1:=TK M;have l2:=TK h;obtain⟨c0,c1,_,_⟩:=gQ B;have J0:=O B;have J1:=O M;have J2:=O h;have j:=O o;clear B M h o;go_wp2_with fail;refine(rN s x a n c _ (by exact R.go j)).mono ?_;rintro e w2 ⟨rfl,q⟩;obtain⟨e0,e1,_,_⟩:=gQ ((q.block _ l1).trans J1);have k:=O q;clear q c0 c1;go_wp2_with fail;refine(rN false (y:Int) b m d _ (by exact(S.go j).go k)).mono ?_;rintro e w3 ⟨rfl,F⟩;have g:Below D D w3:=k.trans (F.mono k.size);obtain⟨c0,c1,_,_⟩:=gQ ((g.block _ l0).trans J0);obtain⟨d0,d1,_,_⟩:=gQ ((g.block _ l1).trans J1);have f:=O g;clear F g e0 e1 k;go_wp2_with fail;refine(sD s x y a b n m c d _ (by exact(R.go j).go f) (by exact(S.go j).go f) hy hm).mono ?_;rintro e N ⟨C,l,t,c4,b4,r,z,rfl,L,K,H,f4,g4⟩;have i:Below D D N:=f.trans (H.mono f.size);have a2:=f.size;have h:=(i.block _ l2).trans J2;have T:=O (show QL N N C l t c4 b4 r z (mkRat x y)from⟨L,K⟩);have u:=O i;have P:=O f4;have Q:=O g4;clear L K H f4 g4 i c0 c1 d0 d1;obtain⟨d0,d1,d2,d3⟩:=gL h;have f0:=gD h 0;have f1:=gD h 1;have f2:=gD h 2;have f3:=gD h 3;have H2:=O h;clear h;go_wp2_with fail;have A:=kl (s':=C) (a':=l) (n':=t) (c':=c4) (t':=false) (b':=b4) (m':=r) (d':=z) H2;obtain⟨k0,a0,a1,k3⟩:=gL A;refine ar (v:=.tuple #[.agg #[C,Z l t c4,false,Z b4 r z],oZ]) ?_ rfl ?_
 .simp[results,results235,go_sem,k0,a0,a1,k3]
 .have o4:mx w (w+3) l t:=mx.ofFresh (P.mono (by omega))
  have o5:mx w (w+3) b4 r:=mx.ofFresh (Q.mono (by omega));exact⟨C,l,t,c4,b4,r,z,rfl,T.put o4 o5 (show w.heap.size<=w.heap.size+2 by omega) (by omega),iR (j.trans (u.mono (by omega))) (by omega),P.mono (by omega),Q.mono (by omega)⟩
def PA(x:Int)(y:Nat)(w)(h1: -9223372036854775808<=x)(h2:x<=9223372036854775807)(hy:0<y)(u:(y:Int)<=9223372036854775807):
 Calls prog 195 #[x,.int .i64 (y:Int)] w (wj w (mkRat x y)):=by
 have p:=(TH w w).alloc (aa _) (.cells #[false,oN,false,oN] 243);have Q:pO (w.alloc (.cells #[false,oN,false,oN] 243)) w false none 0 0 false none 0 0:=TL w _;have N:=nu (y:Int) (by omega) u;have n:=O p;have F:=O Q;have Hl:=O N;clear p Q N;go_enter func195,ntmps195;go_upto_region 1 with fail;refine jp (fun wx=>pO wx w false none 0 0 false none 0 0/\Below w w wx) ⟨F,n⟩ ?_;clear F n;rintro X ⟨A,M⟩;have l0:=TK A;have J0:=O A;have Hb:=O M;clear A M;go_wp2_with fail;refine(oT x _ h1 h2).mono ?_;rintro e w2 ⟨s2,a2,n2,c2,rfl,s,q,_⟩;have o:=O s;have f:=O q;clear s q;go_wp2_with fail;refine(oT (y:Int) _ (by omega) u).mono ?_;rintro e w3 ⟨s3,a3,W,c3,rfl,d,g,_⟩
 have R:s3=false:=by rw[d.1];exact aw (by omega)
 subst R
 have P:W<=599:=by have:=mW d;have:=Hl.out;omega
 have i:=O (o.go g);have E:=O d;have a:=O (f.trans (g.mono f.size));clear d g o f;go_wp2_with fail;refine(KE x y s2 a2 a3 n2 W c2 c3 w3 (by exact i) (by exact E) hy P).mono ?_;rintro e w4 ⟨B,j,m,c4,b4,l,z,rfl,t,r,K,L⟩;have b:Below X X w4:=a.trans (r.mono a.size);have a0:=a.size;have c:=(b.block _ l0).trans J0;have H:=O t;have h:=O b;have C:=O K;have D:=O L;clear t r K L b;obtain⟨d0,d1,d2,d3⟩:=gL c;have f0:=gD c 0;have f1:=gD c 1;have f2:=gD c 2;have f3:=gD c 3;have H2:=O c;clear c;go_wp2_with fail;have k:=kl (s':=B) (a':=j) (n':=m) (c':=c4) (t':=false) (b':=b4) (m':=l) (d':=z) H2;obtain⟨k0,S,T,k3⟩:=gL k;refine ar (v:=.tuple #[.agg #[B,Z j m c4,false,Z b4 l z],oZ]) ?_ rfl ?_
 .simp[results,results195,go_sem,k0,S,T,k3]
 .have o4:mx w (w+1) j m:=mx.ofFresh (C.mono (by omega))
  have o5:mx w (w+1) b4 l:=mx.ofFresh (D.mono (by omega));exact⟨B,j,m,c4,b4,l,z,rfl,H.put o4 o5 (aa _) (by omega),iR (Hb.trans (h.mono (by omega))) (aa _),C.mono (by omega),D.mono (by omega)⟩
def pQ(x:Int)(y:Nat)(w)(h1: -9223372036854775808<=x)(h2:x<=9223372036854775807)(R:0<y)(F:(y:Int)<=9223372036854775807):
 Calls prog 157 #[x,.int .i64 (y:Int)] w (Bh w (mkRat x y)):=by
 have b:=(TH w w).alloc (aa _) (.cells #[false,oN,false,oN] 243);have D:pO (w.alloc (.cells #[false,oN,false,oN] 243)) w false none 0 0 false none 0 0:=TL w _;have p:=O b;have u:=O D;clear b D;go_enter func157,ntmps157;go_upto_region 1 with fail;refine jp (fun m=>pO m w false none 0 0 false none 0 0/\Below w w m) ⟨u,p⟩ ?_;clear u p;rintro w0 ⟨r,C⟩;have l0:=TK r;have Q:=O r;have P:=O C;clear r C;go_wp2_with fail;refine(PA x y _ h1 h2 R F).mono ?_;rintro e h ⟨l,d,g,c4,b4,f,i,rfl,q,k,A,B⟩;have E:=k.size;have z:=O q;have t:=O k;have L:=O A;have M:=O B;clear q k A B;go_upto_region 2 with fail;have b:=(TH h h).alloc (aa _) (.cells #[l,Z d g c4,false,Z b4 f i] 243);refine jp (fun m=>pO m h l d g c4 false b4 f i/\Below h h m) ⟨TL h _,b⟩ ?_;clear b;rintro X ⟨h5,j⟩;obtain⟨c0,c1,c2,c3⟩:=gL h5;have a:Below w0 w0 X:=t.trans (j.mono E);have c:=(a.block _ l0).trans Q;obtain⟨d0,d1,d2,d3⟩:=gL c;have f0:=gD c 0;have f1:=gD c 1;have f2:=gD c 2;have f3:=gD c 3;have N:=O c;have s:=O j;have n:=O a;clear c h5 j a;go_wp2_with fail;have o:=kl (s':=l) (a':=d) (n':=g) (c':=c4) (t':=false) (b':=b4) (m':=f) (d':=i) N;obtain⟨k0,H,K,S⟩:=gL o;refine ar (v:=.agg #[l,Z d g c4,false,Z b4 f i]) ?_ rfl ?_
 .simp[results,results157,go_sem,k0,H,K,S]
 .have T:mx w (w+1) d g:=mx.ofFresh (L.mono (by omega))
  have W:mx w (w+1) b4 f:=mx.ofFresh (M.mono (by omega));exact⟨l,d,g,c4,b4,f,i,rfl,(z.go s).put T W (aa _) (by omega),iR (P.trans (n.mono (by omega))) (aa _)⟩
def Jq(r){s}(a:0<s.num):r/s=mkRat (r.num*((s.den:Nat):Int)) (r.den*s.num.natAbs):=by
 have hi:(s⁻¹).num=((s.den:Nat):Int)/\(s⁻¹).den=s.num.natAbs:=by
  show(Rat.inv s).num=_/\(Rat.inv s).den=_
  unfold Rat.inv;rw[eJ (by omega),fo a];exact⟨rfl,rfl⟩
 rw[Rat.div_def,<- GU,hi.1,hi.2]
def M8{k l r s}(h1:Sz k r)(h2:Sz l s):(r.num*((s.den:Nat):Int)).natAbs<1000000000^(k+l)/\r.den*s.num.natAbs<1000000000^(k+l):=by
 rw[eG,dm,aB];exact⟨cU h1.1 h2.2,cU h1.2 h2.1⟩
def M9(h i k1 k2 s t a b a' b' n m c d n' m' c' d')(w:World)(h1:QL w w s a n c b m d h)(h2:QL w w t a' n' c' b' m' d' i)(z1:Sz k1 h)(z2:Sz k2 i)(hk:k1+k2<=599)(hp:0<i.num):
 Calls prog 256 #[.agg #[s,Z a n c,false,Z b m d],.agg #[t,Z a' n' c',false,Z b' m' d']] w (wj w (h/i)):=by
 have e4:=h1.m z1;have e5:=h2.m z2;obtain⟨i0,i1,i2⟩:=jh w (.cells #[s,Z a n c,false,Z b m d] 243) (.cells #[t,Z a' n' c',false,Z b' m' d'] 243) (.cells #[false,oN,false,oN] 243);have hb:=oF w (.cells #[s,Z a n c,false,Z b m d] 243) (.cells #[t,Z a' n' c',false,Z b' m' d'] 243) (.cells #[false,oN,false,oN] 243);have I0:=O i0;have I1:=O i1;have I2:=O i2;have q:=O hb;have X:=O h1;have a0:=O h2;have Z1:=O z1;have Z2:=O z2;obtain⟨zn,zd⟩:=M8 z1 z2;have ln:(ip (h.num*((i.den:Nat):Int)).natAbs).length<=599:=af (iB zn) hk;have ld:(ip (h.den*i.num.natAbs)).length<=599:=af (iB zd) hk;have d6:0<h.den*i.num.natAbs:=dZ (bq h.den_nz) (by omega);have c6:=(Jq h hp).symm
 have e6:((n':Int)==0)=false:=by
  have:=mW h2.n
  have h0:n'≠0:=fun e=>by rw[e]at this;have:=jC.1 this.symm;omega
  simp;omega
 have c7:((h.den:Nat):Int)*i.num=((h.den*i.num.natAbs:Nat):Int):=by rw[bW,Int.natAbs_of_nonneg (by omega)]
 have c8:=O ln;have b5:=O ld;have c9:=O c6;have b6:=O c7;clear zn zd ln ld c6 c7;clear i0 i1 i2 hb h1 h2 z1 z2;generalize h/i=R at*;go_enter func256,ntmps256;go_upto_region 1 with fail;refine jp (fun wx=>pO wx w s a n c false b m d/\pO wx (w+1) t a' n' c' false b' m' d'/\pO wx (w+2) false none 0 0 false none 0 0/\Below w w wx) ⟨I0,I1,I2,q⟩ ?_;clear I0 I1 I2 q;rintro w1 ⟨j0,j1,o,hb⟩;have l0:=TK j0;have l1:=TK j1;have l2:=TK o;obtain⟨c0,c1,c2,c3⟩:=gL j0;have J0:=O j0;have J1:=O j1;have J2:=O o;have q:=O hb;clear j0 j1 o hb;go_wp2_with fail;refine(mF h s a b n m c d _ (by exact X.go q) (by omega)).mono ?_;rintro e w2 ⟨rfl,a2⟩;obtain⟨e0,e1,e2,e3⟩:=gL ((a2.block _ l1).trans J1);have C:=O a2;clear a2 c0 c1 c2 c3;go_wp2_with fail;refine(mF i t a' b' n' m' c' d' _ (by exact(a0.go q).go C) (by omega)).mono ?_;rintro e W ⟨rfl,b8⟩;have l:Below w1 w1 W:=C.trans (b8.mono C.size);obtain⟨c0,c1,c2,c3⟩:=gL ((l.block _ l0).trans J0);obtain⟨d0,d1,d2,d3⟩:=gL ((l.block _ l1).trans J1);have f:=O l;clear b8 l e0 e1 e2 e3 C;go_upto_region 5 with fail;have Z0:=TK ((f.block _ l0).trans J0);have H:=TK ((f.block _ l1).trans J1);refine gS 14 [(0,true),(1,true),(2,true),(3,true),(5,true),(6,true),(7,true),(8,true),(4,false),(9,false),(10,false),(11,false),(12,true),(13,true)] (by kernel_rfl) (by kernel_rfl) ?_
 iterate 8
  refine gU (v:=?_) ?_ ?_;rotate_left
  .intro y u
   have x0:=(u.cell (p:=J (w.heap.size)) Z0).trans c0;have x1:=(u.cell (p:=⟨w.heap.size,1,none⟩) Z0).trans c1;have x2:=(u.cell (p:=⟨w.heap.size,2,none⟩) Z0).trans c2;have x3:=(u.cell (p:=⟨w.heap.size,3,none⟩) Z0).trans c3;have y0:=(u.cell (p:=J (w+1)) H).trans d0;have y1:=(u.cell (p:=⟨w.heap.size+1,1,none⟩) H).trans d1;have y2:=(u.cell (p:=⟨w.heap.size+1,2,none⟩) H).trans d2;have y3:=(u.cell (p:=⟨w.heap.size+1,3,none⟩) H).trans d3;go_simp;rfl
  try simp only[V]
 clear c0 c1 c2 c3 d0 d1 d2 d3;refine gP (fun A g=>?_);go_simp;refine(qA s false h.num ((i.den:Nat):Int) a b' n m' c d' W.drew (by exact(X.n.go q).go (oP f)) (by exact(a0.d.go q).go (oP f)) (by have:=c8.out;omega)).mono ?_;rintro e w4 ⟨B,x,z,c4,rfl,b9,a3,_⟩;refine g _ _ a3 ?_;clear g A;have K:Below W W w4:=gJ (k:=1) a3;have b3:=O b9;have j:=O K;clear b9 a3 K;(try simp only[V]);refine gP (fun A g=>?_);go_simp;refine(qA false t ((h.den:Nat):Int) i.num b a' m n' d c' w4 (by exact((X.d.go q).go f).go j) (by exact((a0.n.go q).go f).go j) (by rw[b6,aB];have:=b5.out;omega)).mono ?_;rintro e w5 ⟨s5,a5,n5,c5,rfl,Q,M,_⟩;refine g _ _ M ?_;clear g A;rw[b6]at Q
 have d7:s5=false:=by rw[Q.1];exact aw (Int.not_lt.2 (dP _))
 subst d7;have F:=O (b3.go M);have a1:=O Q;have D:=O (j.trans (M.mono j.size));clear Q M b3 j;(try simp only[V]);refine gP (fun A g=>?_);go_simp;refine(sD B (h.num*((i.den:Nat):Int)) (h.den*i.num.natAbs) x a5 z n5 c4 c5 w5 (by exact F) (by exact a1) d6 (by have:=mW a1;rw[aB]at this;have:=b5.out;omega)).mono ?_;rintro e w6 ⟨B,x,z,c4,b4,T,d4,rfl,S,P,a6,f4,g4⟩;refine g _ _ a6 ?_;clear g A;rw[c9]at S P;have b0:=S.2.2;have a9:=P.2.2;have b2:=D.size;have b1:=f.size;have b7:=O (show QL w6 w6 B x z c4 b4 T d4 R from⟨S,P⟩);have E:=O (D.trans (a6.mono b2));have F4:=O f4;have G4:=O g4;clear S P a6 f4 g4 F a1;(try simp only[V]);refine gP (fun A g=>?_);go_simp;refine(zF B false x b4 z T c4 d4 w6 b0 a9).mono ?_;rintro e w7 ⟨rfl,N⟩;refine g _ _ N ?_;clear g A;have L:Below W W w7:=E.trans (N.mono E.size);have r:Below w1 w1 w7:=f.trans (L.mono b1);have o:=(r.block _ l2).trans J2;have d5:=O (b7.go N);have a7:=O r;clear N L r b7;try simp only[V]
 iterate 2
  refine gU (v:=?_) ?_ ?_;rotate_left
  .intro y u
   skip;go_simp;rfl
  try simp only[V]
 refine iu rfl ?_;obtain⟨d0,d1,d2,d3⟩:=gL o;have f0:=gD o 0;have f1:=gD o 1;have f2:=gD o 2;have f3:=gD o 3;have H2:=O o;clear o;go_wp2_with fail;have a8:=kl (s':=B) (a':=x) (n':=z) (c':=c4) (t':=false) (b':=b4) (m':=T) (d':=d4) H2;obtain⟨k0,d8,d9,k3⟩:=gL a8;refine ar (v:=.tuple #[.agg #[B,Z x z c4,false,Z b4 T d4],oZ]) ?_ rfl ?_
 .simp[results,results256,go_sem,k0,d8,d9,k3]
 .have o4:mx w (w+3) x z:=mx.ofFresh (F4.mono (by omega))
  have o5:mx w (w+3) b4 T:=mx.ofFresh (G4.mono (by omega));exact⟨B,x,z,c4,b4,T,d4,rfl,d5.put o4 o5 (show w.heap.size<=w.heap.size+2 by omega) (by omega),iR (q.trans (a7.mono (by omega))) (by omega),F4.mono (by omega),G4.mono (by omega)⟩
def Cb(q l k1 D s t a b a' b' n m c d n' m' c' d')(w:World)(h1:QL w w s a n c b m d q)(h2:QL w w t a' n' c' b' m' d' l)(z1:Sz k1 q)(z2:Sz D l)(hk:k1+D<=599)(hp:0<l.num):
 Calls prog 228 #[.agg #[s,Z a n c,false,Z b m d],.agg #[t,Z a' n' c',false,Z b' m' d']] w (Bh w (q/l)):=by
 obtain⟨W,X,i2⟩:=jh w (.cells #[s,Z a n c,false,Z b m d] 243) (.cells #[t,Z a' n' c',false,Z b' m' d'] 243) (.cells #[false,oN,false,oN] 243);have u:=oF w (.cells #[s,Z a n c,false,Z b m d] 243) (.cells #[t,Z a' n' c',false,Z b' m' d'] 243) (.cells #[false,oN,false,oN] 243);have P:=O i2;have C:=O u;have I0:=O W;have I1:=O X;have L:=O (M9 q l k1 D s t a b a' b' n m c d n' m' c' d' _ (h1.go u) (h2.go u) z1 z2 hk hp);clear W X i2 u h1 h2 z1 z2;generalize q/l=R at*;go_enter func228,ntmps228;go_wp2_with fail;refine L.mono ?_;rintro e g ⟨r,h,j,c4,b4,i,o,rfl,B,k,S,T⟩
 have a2:w.heap.size+3<=g.heap.size:=by have:=k.size;simp at this;omega
 have f:=(k.block (w+2) (by simp)).trans P;have A:Below w w g:=C.trans (k.mono C.size);have E:kS (w+3) h j:=S.mono (by simp);have F:kS (w+3) b4 i:=T.mono (by simp);have N:=O B;have Q:=O f;have M:=O A;have H:=O E;have K:=O F;clear B k S T f A E F I0 I1 P C L;go_upto_region 2 with fail;have z:=(TH g g).alloc (aa _) (.cells #[r,Z h j c4,false,Z b4 i o] 243);refine jp (fun wx=>pO wx g r h j c4 false b4 i o/\Below g g wx) ⟨TL g _,z⟩ ?_;clear z;rintro w2 ⟨h5,p⟩;obtain⟨c0,c1,c2,c3⟩:=gL h5;have f:=(p.block _ (TK Q)).trans Q;obtain⟨d0,d1,d2,d3⟩:=gL f;have f0:=gD f 0;have f1:=gD f 1;have f2:=gD f 2;have f3:=gD f 3;have H2:=O f;have y:=O p;clear f h5 p;go_wp2_with fail;have x:=kl (s':=r) (a':=h) (n':=j) (c':=c4) (t':=false) (b':=b4) (m':=i) (d':=o) H2;obtain⟨k0,a0,a1,k3⟩:=gL x;refine ar (v:=.agg #[r,Z h j c4,false,Z b4 i o]) ?_ rfl ?_
 .simp[results,results228,go_sem,k0,a0,a1,k3]
 .have o4:mx w (w+3) h j:=mx.ofFresh H
  have o5:mx w (w+3) b4 i:=mx.ofFresh K;exact⟨r,h,j,c4,b4,i,o,rfl,(N.go y).put o4 o5 (show w.heap.size<=w.heap.size+2 by omega) (by omega),iR (M.trans (y.mono (by omega))) (by omega)⟩
def Na(x){y}(c:0<y):(mkRat x y).num.natAbs<=x.natAbs/\(mkRat x y).den<=y:=by
 obtain⟨h1,h2⟩:=zA x (d:=y) (by omega);have e:0<Nat.gcd x.natAbs y:=eM _ c;rw[h1,h2];refine⟨?_,dp _ _⟩;obtain⟨k,b⟩:=fG x.natAbs y;have a:((Nat.gcd x.natAbs y:Nat):Int)∣ x:=Int.ofNat_dvd_left.2 ⟨k,b⟩;rw[Int.natAbs_ediv_of_dvd a,aB];exact dp _ _
def Sz.mk{x y k}(a:0<y)(h1:x.natAbs<1000000000^k)(h2:y<1000000000^k):Sz k (mkRat x y):=by
 obtain⟨b,c⟩:=Na x a;exact⟨by omega,by omega⟩
def Sz.mul{k l r s}(h1:Sz k r)(h2:Sz l s):Sz (k+l) (r*s):=by
 obtain⟨a,b⟩:=M0 h1 h2;rw[<- GU];exact Sz.mk (dZ (bq r.den_nz) (bq s.den_nz)) a b
def zH{a b}(h:a<=b):(1000000000:Nat)^a<=1000000000^b:=dA (by omega) h
def Sz.mono{k l r}(h:Sz k r)(a:k<=l):Sz l r:=⟨ab h.1 (zH a),ab h.2 (zH a)⟩
def Sz.add{k l r s}(h1:Sz k r)(h2:Sz l s):Sz (k+l+1) (r+s):=by
 obtain⟨a,b⟩:=T8 h1 h2;rw[<- T7];exact Sz.mk (dZ (bq r.den_nz) (bq s.den_nz)) a (ab b (zH (by omega)))
def Sz.div{k l r s}(h1:Sz k r)(h2:Sz l s)(c:0<s.num):Sz (k+l) (r/s):=by
 obtain⟨a,b⟩:=M8 h1 h2;rw[Jq r c];exact Sz.mk (dZ (bq r.den_nz) (by omega)) a b
def tS(L:Int):Rat:=mkRat (L*L) 1000000000000
def xe(L:Int):Nat->Rat
 |0=>mkRat 1 1
 |k+1=>xe L k*tS L
def EK(L:Int):Nat->Rat
 |0=>mkRat 1 1
 |k+1=>EK L k/tS L
def kN(L n:Int):Rat:=if 0<=n then xe L n.toNat else EK L (-n).toNat
def QX{x y}(c:0<y)(h:0<x):0<(mkRat x y).num:=by
 obtain⟨h1,_⟩:=zA x (d:=y) (by omega);rw[h1];have g:0<Nat.gcd x.natAbs y:=eM _ c;obtain⟨k,a⟩:=fG x.natAbs y
 have b:x=((Nat.gcd x.natAbs y:Nat):Int)*(k:Int):=by rw[<- bW,<- a];omega
 have f:0<k:=by
  obtain e|e:=cM k
  .rw[e,eV]at a;omega
  .exact e
 generalize Nat.gcd x.natAbs y=Gq0 at*;rw[b,Int.mul_ediv_cancel_left _ (by omega)];omega
def Nb{L}(h:0<L):0<(tS L).num:=QX (by omega) (Int.mul_pos h h)
def Jr{L}(h:0<L)(h2:L<=2500000):Sz 2 (tS L):=by
 refine Sz.mk (by omega) ?_ (by omega);have h3:L*L<=2500000*2500000:=eI h2 h2 (by omega) (by omega);have a:0<=L*L:=eH (by omega) (by omega);omega
def Dg{L}(h:0<L)(h2:L<=2500000):∀k,Sz (2*k+1) (xe L k)
 |0=>Sz.mk (by omega) (by decide) (by decide)
 |k+1=>((Dg h h2 k).mul (Jr h h2)).mono (by omega)
def Dh{L}(h:0<L)(h2:L<=2500000):∀k,Sz (2*k+1) (EK L k)
 |0=>Sz.mk (by omega) (by decide) (by decide)
 |k+1=>((Dh h h2 k).div (Jr h h2) (Nb h)).mono (by omega)
def QY{N w a n c zs g s a' n' c' t b' m' d'}(h:SL N w a n c zs)(l:pO w g s a' n' c' t b' m' d'):∀b off,a=some ⟨b,off,none⟩->0<n->b≠g:=by
 rintro b off e f rfl;obtain⟨b1,i,d,_,j⟩:=h.at f;rw[e]at d;cases d;have h0:=j 0 f;rw[gA l]at h0
 match hoff:off+0,h0 with
 |0,h0=>simp at h0
 |1,h0=>simp at h0
 |2,h0=>simp at h0
 |3,h0=>simp at h0
 |k+4,h0=>simp at h0
def Js{w:World}{s a n c z g s' a' n' c' t' b' m' d' u v u2 v2}(h:LG w w s a n c z)(d:pO w g s' a' n' c' t' b' m' d'):
 LG ((((w.setCell (J g) u).setCell ⟨g,1,none⟩ v).setCell ⟨g,2,none⟩ u2).setCell ⟨g,3,none⟩ v2).heap.size ((((w.setCell (J g) u).setCell ⟨g,1,none⟩ v).setCell ⟨g,2,none⟩ u2).setCell ⟨g,3,none⟩ v2) s a n c z:=by
 have b:=QY h.2.1 d;have:=(((h.setCell (J g) u b).setCell ⟨g,1,none⟩ v b).setCell ⟨g,2,none⟩ u2 b).setCell ⟨g,3,none⟩ v2 b;simpa using this
def QL.putG{w:World}{s a n c b m d r g s' a' n' c' t' b' m' d' u v u2 v2}(h:QL w w s a n c b m d r)(e:pO w g s' a' n' c' t' b' m' d'):
 QL ((((w.setCell (J g) u).setCell ⟨g,1,none⟩ v).setCell ⟨g,2,none⟩ u2).setCell ⟨g,3,none⟩ v2).heap.size ((((w.setCell (J g) u).setCell ⟨g,1,none⟩ v).setCell ⟨g,2,none⟩ u2).setCell ⟨g,3,none⟩ v2) s a n c b m d r:=⟨Js h.n e,Js h.d e⟩
def Nc{w g k s a n c t b m d u v u2 v2}(f:g≠k)(h:pO w g s a n c t b m d):
 pO ((((w.setCell (J k) u).setCell ⟨k,1,none⟩ v).setCell ⟨k,2,none⟩ u2).setCell ⟨k,3,none⟩ v2) g s a n c t b m d:=
 (TI _ _ _ _ (fun e=>f e)).trans ((TI _ _ _ _ (fun e=>f e)).trans ((TI _ _ _ _ (fun e=>f e)).trans ((TI _ _ _ _ (fun e=>f e)).trans h)))
def kG(w:World)(g:Nat)(r:Rat):Prop:=∃s a n c b m d,pO w g s a n c false b m d/\QL w w s a n c b m d r
def kG.lt{w g r}(h:kG w g r):g<w.heap.size:=by obtain⟨s,a,n,c,b,m,d,h,_⟩:=h;exact TK h
def kG.go{w w' g r}(h:kG w g r)(e:Below w w w'):kG w' g r:=by
 obtain⟨s,a,n,c,b,m,d,h1,h2⟩:=h;exact⟨s,a,n,c,b,m,d,(e.block _ (TK h1)).trans h1,h2.go e⟩
def kG.new{w:World}{s a n c b m d r}(h:QL w w s a n c b m d r):kG (w.alloc (.cells #[s,Z a n c,false,Z b m d] 243)) w r:=
 ⟨s,a,n,c,b,m,d,TL w _,h.go ((TH _ _).alloc (aa _) _)⟩
def kG.put{w g r q s a n c b m d}(h:kG w g q)(e:QL w w s a n c b m d r):
 kG ((((w.setCell (J g) (.bool s)).setCell ⟨g,1,none⟩ (.slice a n c)).setCell ⟨g,2,none⟩ (.bool false)).setCell ⟨g,3,none⟩ (.slice b m d)) g r:=by
 obtain⟨s',a',n',c',b',m',d',h1,h2⟩:=h;exact⟨s,a,n,c,b,m,d,kl h1,e.putG h1⟩
def kG.other{w g k r q u v u2 v2}(h:kG w g r)(f:kG w k q)(e:g≠k):
 kG ((((w.setCell (J k) u).setCell ⟨k,1,none⟩ v).setCell ⟨k,2,none⟩ u2).setCell ⟨k,3,none⟩ v2) g r:=by
 obtain⟨s',a',n',c',b',m',d',h1,h2⟩:=h;obtain⟨s,a,n,c,b,m,d,k1,i⟩:=f;exact⟨s',a',n',c',b',m',d',Nc e h1,h2.putG k1⟩
def zI(L n:Int)(k:Nat):Rat:=if 0<=n then xe L n.toNat else EK L k
def KF{L n}(h:¬0<=n):zI L n 0=xe L 0:=by unfold zI;rw[aj h];rfl
def uA(L n:Int)(w)(h1:0<L)(h2:L<=2500000)(n1: -4<=n)(n2:n<=4):
 Calls prog 191 #[L,n] w (Bh w (kN L n)):=by
 have d9:L*L<=2500000*2500000:=eI h2 h2 (by omega) (by omega);have d8:0<=L*L:=eH (by omega) (by omega);have d:=(TH w w).alloc (aa _) (.cells #[false,oN,false,oN] 243);have hq:pO (w.alloc (.cells #[false,oN,false,oN] 243)) w false none 0 0 false none 0 0:=TL w _;have u:=O d;have Hq:=O hq;clear d hq;go_enter func191,ntmps191;go_upto_region 1 with fail;refine jp (fun p=>pO p w false none 0 0 false none 0 0/\Below w w p) ⟨Hq,u⟩ ?_;clear Hq u;rintro w0 ⟨j,b2⟩;have l0:=TK j;have J0:=O j;have c8:=O b2;clear j b2;go_wp2_with fail;refine(pQ (L*L) 1000000000000 _ (by omega) (by omega) (by omega) (by omega)).mono ?_;rintro e N ⟨s1,a1,m1,c1,b1,k1,d1,rfl,a2,T⟩;rw[show mkRat (L*L) 1000000000000=tS L from rfl]at a2;have m:=kG.new a2;have d:=(TH N N).alloc (aa _) (.cells #[s1,Z a1 m1 c1,false,Z b1 k1 d1] 243);have a:=O m;have u:=O (T.trans (d.mono T.size));have l1:=T.size;clear a2 m d T;go_upto_region 2 with fail;refine jp (fun p=>kG p N (tS L)/\Below w0 w0 p/\N.heap.size<p.heap.size) ⟨a,u,a.lt⟩ ?_;clear a u;rintro w2 ⟨h,b4,d4⟩;have a:=O h;have Q:=O b4;clear h b4;go_wp2_with fail;refine(pQ 1 1 _ (by omega) (by omega) (by omega) (by omega)).mono ?_;rintro e w3 ⟨s3,a3,m3,c3,b3,k3,d3,rfl,a4,W⟩;rw[show mkRat 1 1=xe L 0 from rfl]at a4;have d:=(TH w3 w3).alloc (aa _) (.cells #[s3,Z a3 m3 c3,false,Z b3 k3 d3] 243);have f:=kG.new a4;have l3:=W.size;have r:=W.trans (d.mono W.size);have t:=O f;have P:=O (a.go r);have R:=O (Q.trans (r.mono Q.size));have d2:=Q.size;clear a4 d f W r a Q;go_upto_region 3 with fail;refine jp (fun p=>kG p N (tS L)/\kG p w3 (xe L 0)/\Below w0 w0 p) ⟨P,t,R⟩ ?_;clear P t R;rintro w4 ⟨h,l,b8⟩;have a:=O h;have t:=O l;have a9:=O b8;clear h l b8
 have hg:w3.heap.size≠N.heap.size:=by omega
 have c2:w0.heap.size<=w3.heap.size:=by omega
 have Hg:=O hg;have b0:=O c2;generalize N.heap.size=g5 at*;generalize w3.heap.size=g6 at*;clear l1 l3 d2 d4 hg c2;go_wp2_with fail
 go_loopw [7] (fun E wr=>∃k:Nat,E=.int .i64 (k:Int)/\k<=n.toNat/\kG wr g5 (tS L)/\kG wr g6 (xe L k)/\Below w0 w0 wr) (fun E _=>n.toNat-(intOf E).toNat)
 case atStart=>exact⟨0,rfl,aA _,a,t,a9⟩
 case round=>
  obtain⟨k,rfl,hk,h,l,b9⟩:=hrel;have a0:=O b9;clear b9;by_cases hlt:(k:Int) <n
  .obtain⟨s5,a5,m5,c5,b5,k5,d5,K,f5⟩:=h
   obtain⟨M,z,H,B,A,F,C,o,q⟩:=l;obtain⟨x0,x1,x2,x3⟩:=gL K;obtain⟨y0,y1,y2,y3⟩:=gL o;have Q5:=O K;have y:=O o;have F5:=O f5;have x:=O q;clear K o f5 q;go_wp2_with fail;refine(nM (xe L k) (tS L) (2*k+1) 2 M s5 z A a5 b5 H F B C m5 k5 c5 d5 _ (by exact x) (by exact F5) (Dg h1 h2 k) (Jr h1 h2) (by omega)).mono ?_;rintro e wa ⟨s7,a7,m7,c7,b7,k7,d7,rfl,D,i⟩;rw[show xe L k*tS L=xe L (k+1)from rfl]at D;have c:=(i.block _ (TK y)).trans y;obtain⟨y0,y1,y2,y3⟩:=gL c;have e0:=gD c 0;have e1:=gD c 1;have e2:=gD c 2;have e3:=gD c 3;have F7:=O D;have b:=O i;clear D i c x0 x1 x2 x3;go_wp2_with fail
   go_roundw
   case rel=>
    have f:kG wr g6 (xe L k):=⟨_,_,_,_,_,_,_,y,x⟩;have m:kG wr g5 (tS L):=⟨_,_,_,_,_,_,_,Q5,F5⟩;exact⟨k+1,by go_num,by omega,(m.go b).other (f.go b) Hg.symm,(f.go b).put F7,iR (a0.trans (b.mono a0.size)) b0⟩
   case measure=>simp[intOf];omega
  .have c4:xe L k=zI L n 0:=by
    by_cases h0:0<=n
    .unfold zI
     rw[aq h0,show n.toNat=k by omega]
    .have d0:k=0:=by omega
     rw[d0,KF h0]
   rw[c4]at l;have m:=O h;have f:=O l;clear h l c4 a t a9;go_wp2_with fail
   go_loopw [8] (fun E wz=>∃k:Nat,E=.int .i64 (-(k:Int))/\k<=(-n).toNat/\kG wz g5 (tS L)/\kG wz g6 (zI L n k)/\Below w0 w0 wz) (fun E _=>(-n).toNat-(intOf E).natAbs)
   case atStart=>exact⟨0,rfl,aA _,m,f,a0⟩
   case round=>
    obtain⟨g,rfl,e5,h,l,c0⟩:=hrel;have S:=O c0;clear c0;by_cases e4:n< -(g:Int)
    .have s:¬0<=n:=by omega
     obtain⟨s5,a5,m5,c5,b5,k5,d5,K,f5⟩:=h;obtain⟨M,z,H,B,A,F,C,o,q⟩:=l;obtain⟨x0,x1,x2,x3⟩:=gL K;obtain⟨y0,y1,y2,y3⟩:=gL o;rw[show zI L n g=EK L g by unfold zI;rw[aj s]]at q;have c9:=O (show zI L n (g+1)=EK L g/tS L by unfold zI;rw[aj s];rfl);have Q5:=O K;have y:=O o;have F5:=O f5;have x:=O q;clear K o f5 q s m f;go_wp2_with fail;refine(Cb (EK L g) (tS L) (2*g+1) 2 M s5 z A a5 b5 H F B C m5 k5 c5 d5 _ (by exact x) (by exact F5) (Dh h1 h2 g) (Jr h1 h2) (by omega) (Nb h1)).mono ?_;rintro e wa ⟨s7,a7,m7,c7,b7,k7,d7,rfl,D,i⟩;rw[<- c9]at D;have c:=(i.block _ (TK y)).trans y;obtain⟨y0,y1,y2,y3⟩:=gL c;have e0:=gD c 0;have e1:=gD c 1;have e2:=gD c 2;have e3:=gD c 3;have F7:=O D;have b:=O i;clear D i c x0 x1 x2 x3;go_wp2_with fail
     go_roundw
     case rel=>
      have f:kG wr g6 (EK L g):=⟨_,_,_,_,_,_,_,y,x⟩;have m:kG wr g5 (tS L):=⟨_,_,_,_,_,_,_,Q5,F5⟩;exact⟨g+1,by go_num,by omega,(m.go b).other (f.go b) Hg.symm,(f.go b).put F7,iR (S.trans (b.mono S.size)) b0⟩
     case measure=>simp[intOf];omega
    .have X:zI L n g=kN L n:=by
      by_cases h0:0<=n
      .unfold zI kN;rw[aq h0,aq h0]
      .rw[show g=(-n).toNat by omega];rfl
     rw[X]at l;obtain⟨M,z,H,B,A,F,C,o,q⟩:=l;obtain⟨y0,y1,y2,y3⟩:=gL o;have j:=(S.block _ l0).trans J0;obtain⟨x0,x1,x2,x3⟩:=gL j;have e0:=gD j 0;have e1:=gD j 1;have e2:=gD j 2;have e3:=gD j 3;have J1:=O j;have x:=O q;clear j o q X h m f;go_wp2_with fail;have a8:=kl (s':=M) (a':=z) (n':=H) (c':=B) (t':=false) (b':=A) (m':=F) (d':=C) J1;obtain⟨z0,z1,z2,z3⟩:=gL a8;refine ar (v:=.agg #[M,Z z H B,false,Z A F C]) ?_ rfl ?_
     .simp[results,results191,go_sem,z0,z1,z2,z3]
     .exact⟨M,z,H,B,A,F,C,rfl,x.putG J1,iR (c8.trans (S.mono (by omega))) (aa _)⟩
structure jQ where
 nm:ByteArray
 form:Int
 c0:Int
 c1:Int
 c2:Int
 c3:Int
 c4:Int
 c5:Int
 lo:Int
 hi:Int
def jQ.cells(g:jQ):List Value:=[.string g.nm,.int .i64 g.form,.int .i64 g.c0,.int .i64 g.c1,.int .i64 g.c2,.int .i64 g.c3,.int .i64 g.c4,.int .i64 g.c5,.int .i64 g.lo,.int .i64 g.hi]
def jQ.co(g:jQ):Nat->Int
 |0=>g.c0
 |1=>g.c1
 |2=>g.c2
 |3=>g.c3
 |4=>g.c4
 |_=>g.c5
def jQ.In(g:jQ):Prop:=∀i,-1000000000000<=g.co i/\g.co i<=1000000000000
abbrev Nd(w:World)(b:Nat)(g:jQ):Prop:=w.heap[b]? =some (.cells #[g.nm,g.form,g.c0,g.c1,g.c2,g.c3,g.c4,g.c5,g.lo,g.hi] 168 (0,0))
def EL{w b g}(h:Nd w b g){i}(hi:i<6):w.cell? ⟨b,2+i,none⟩=some (.int .i64 (g.co i)):=by
 rw[gA h]
 match i,hi with
 |0,_=>rfl
 |1,_=>rfl
 |2,_=>rfl
 |3,_=>rfl
 |4,_=>rfl
 |5,_=>rfl
 |i+6,hi=>omega
def pT(g:jQ)(i:Nat):Rat:=mkRat (g.co i) 1000000000
def tf{g}(h:g.In)(i):Sz 2 (pT g i):=by
 have:=h i;exact Sz.mk (by omega) (by omega) (by omega)
def qb{L n}(h:0<L)(h2:L<=2500000)(a: -4<=n)(b:n<=4):Sz 9 (kN L n):=by
 unfold kN;split
 .exact(Dg h h2 _).mono (by omega)
 .exact(Dh h h2 _).mono (by omega)
def mr(g:jQ)(L:Int):Nat->Rat
 |0=>mkRat 0 1
 |i+1=>mr g L i+pT g i*kN L (-(i:Int))
def uB{g}(a:g.In){L}(h:0<L)(h2:L<=2500000):∀i,i<=4->Sz (12*i+1) (mr g L i)
 |0,_=>Sz.mk (by omega) (by decide) (by decide)
 |i+1,hi=>((uB a h h2 i (by omega)).add ((tf a i).mul (qb h h2 (by omega) (by omega)))).mono (by omega)
def Cc(g)(L:Int)(w)(hg:g.In)(h1:0<L)(h2:L<=2500000):
 Calls prog 154 #[.agg #[g.nm,g.form,g.c0,g.c1,g.c2,g.c3,g.c4,g.c5,g.lo,g.hi],L] w (Bh w (mr g L 3)):=by
 obtain⟨i0,i1⟩:=iN w (.cells #[g.nm,g.form,g.c0,g.c1,g.c2,g.c3,g.c4,g.c5,g.lo,g.hi] 168) (.cells #[false,oN,false,oN] 243);have m:=iH (w:=w) (.cells #[g.nm,g.form,g.c0,g.c1,g.c2,g.c3,g.c4,g.c5,g.lo,g.hi] 168) (.cells #[false,oN,false,oN] 243);have I0:=O i0;have I1:=O i1;have j:=O m;clear i0 i1 m;go_enter func154,ntmps154;go_upto_region 1 with fail;refine jp (fun z=>Nd z w g/\pO z (w+1) false none 0 0 false none 0 0/\Below w w z) ⟨I0,I1,j⟩ ?_;clear I0 I1 j;rintro w0 ⟨r,d,a3⟩;have lg:=TK r;have l0:=TK d;have JG:=O r;have J0:=O d;have d0:=O a3;clear r d a3;go_wp2_with fail;refine(pQ 0 1 _ (by omega) (by omega) (by omega) (by omega)).mono ?_;rintro e w1 ⟨s1,a1,m1,c1,b1,k1,d1,rfl,H,t⟩;rw[show mkRat 0 1=mr g L 0 from rfl]at H;have D:=kG.new H;have m:=(TH w1 w1).alloc (aa _) (.cells #[s1,Z a1 m1 c1,false,Z b1 k1 d1] 243);have l1:=t.size;have h:=O D;have j:=O (t.trans (m.mono t.size));clear H D m t;go_upto_region 2 with fail;refine jp (fun z=>kG z w1 (mr g L 0)/\Below w0 w0 z) ⟨h,j⟩ ?_;clear h j;rintro w2 ⟨M,a4⟩;have h:=O M;have a0:=O a4;clear M a4;have d4:=O l1;generalize w1.heap.size=g5 at*;clear l1;go_wp2_with fail
 go_loopw [6] (fun iv wr=>∃k:Nat,iv=.int .i64 (k:Int)/\k<=3/\kG wr g5 (mr g L k)/\Below w0 w0 wr) (fun iv _=>3-(intOf iv).toNat)
 case atStart=>exact⟨0,rfl,aA _,h,a0⟩
 case round=>
  obtain⟨k,rfl,hk,M,b0⟩:=hrel;have l:=O b0;have D:=O M;obtain⟨X,N,T,c5,P,S,Q,W,c⟩:=M;obtain⟨x0,x1,x2,x3⟩:=gL W;have l5:=TK W;have Q5:=O W;have F5:=O c;clear b0 W c h a0;by_cases hlt:k<3
  .have r:=(l.block _ lg).trans JG
   have f0:=TK r;have y2:=EL r (i:=k) (by omega);have b2:=hg k;generalize hcc:g.co k=ck at*;have d2:=O hcc
   have f1:(k:Int) <6:=by omega
   clear r hcc;go_wp2_with fail;refine gS 12 [(0,true),(1,true),(2,true),(3,true),(4,true),(6,true),(7,true),(8,true),(5,false),(9,false),(10,false),(11,false)] (by kernel_rfl) (by kernel_rfl) ?_
   iterate 8
    refine gU (v:=?_) ?_ ?_;rotate_left
    .intro y K
     have z0:=(K.cell (p:=J g5) l5).trans x0;have z1:=(K.cell (p:=⟨g5,1,none⟩) l5).trans x1;have z2:=(K.cell (p:=⟨g5,2,none⟩) l5).trans x2;have z3:=(K.cell (p:=⟨g5,3,none⟩) l5).trans x3;have z4:=(K.cell (p:=⟨w.heap.size,2+k,none⟩) f0).trans y2;go_simp;with_reducible rfl
    try simp only[V]
   clear x0 x1 x2 x3 y2;have e8:=uB hg h1 h2 k (by omega);have b4:=qb h1 h2 (n:= -(k:Int)) (by omega) (by omega);have b3:=tf hg k;have e4:=O (show mr g L (k+1)=mr g L k+pT g k*kN L (-(k:Int))from rfl);have d3:=O (show mkRat ck 1000000000=pT g k by rw[<- d2];rfl);generalize hrn:mr g L (k+1)=rn at*;have e6:=O hrn;clear hrn;generalize mr g L k=r5 at*;generalize hpk:kN L (-(k:Int))=pk at*;have e5:=O hpk;clear hpk;generalize pT g k=rc at*
   have e9:IntKind.i64.wrap (-(k:Int))= -(k:Int):=by simp[IntKind.wrap,IntKind.bits,IntKind.signed];omega
   (try simp only[e9]);refine gP (fun q a=>?_);go_simp;refine(pQ ck 1000000000 _ (by have:=b2;omega) (by have:=b2;omega) (by omega) (by omega)).mono ?_;rintro e wa ⟨s6,a6,m6,c6,b6,k6,d6,rfl,x,E⟩;refine a _ _ E ?_;clear a q;(try simp only[V]);rw[d3]at x;have f:Below wr wr wa:=gJ (k:=1) E;have c:=F5.go f;clear E;have A:=O f;have F6:=O x;have G5:=O c;clear f x c;refine gP (fun q a=>?_);go_simp;refine(uA L (-(k:Int)) _ h1 h2 (by omega) (by omega)).mono ?_;rintro e wb ⟨s7,a7,m7,c7,b7,k7,d7,rfl,f7,o⟩;rw[e5]at f7;refine a _ _ o ?_;clear a q;(try simp only[V]);have c:=G5.go o;have x:=F6.go o;have b:=A.trans (o.mono A.size);have B:=O b;have G6:=O x;have G7:=O f7;have K5:=O c;clear b x f7 c o A F6 G5;refine gP (fun q a=>?_);go_simp;refine(nM rc pk 2 9 s6 s7 a6 b6 a7 b7 m6 k6 c6 d6 m7 k7 c7 d7 _ (by exact G6) (by exact G7) b3 b4 (by omega)).mono ?_;rintro e wc ⟨s8,a8,m8,c8,b8,k8,d8,rfl,f8,u⟩;refine a _ _ u ?_;clear a q;(try simp only[V]);have c:=K5.go u;have b:=B.trans (u.mono B.size);have C:=O b;have G8:=O f8;have L5:=O c;clear b f8 c u B G6 G7 K5;refine gP (fun q a=>?_);go_simp;refine(tR r5 (rc*pk) (12*k+1) 11 X s8 N P a8 b8 T S c5 Q m8 k8 c8 d8 _ (by exact L5) (by exact G8) e8 (b3.mul b4) (by omega)).mono ?_;rintro e wd ⟨s9,a9,m9,c9,b9,k9,d9,rfl,f9,F⟩;refine a _ _ F ?_;clear a q;(try simp only[V]);rw[<- e4]at f9;have b:=C.trans (F.mono C.size);have s:=(b.block _ l5).trans Q5;obtain⟨x0,x1,x2,x3⟩:=gL s;have e0:=gD s 0;have e1:=gD s 1;have e2:=gD s 2;have e3:=gD s 3;have P5:=O s;have F9:=O f9;have a2:=O b;clear s f9 b F C G8 L5;refine iu rfl ?_;go_wp2_with fail
   go_roundw
   case rel=>
    have D:kG wr g5 r5:=⟨_,_,_,_,_,_,_,Q5,F5⟩;exact⟨k+1,by go_num,by omega,by rw[e6];exact(D.go a2).put F9,iR (l.trans (a2.mono l.size)) d4⟩
   case measure=>simp[intOf];omega
  .have e7:k=3:=by omega
   subst e7;have d:=(l.block _ l0).trans J0;obtain⟨y0,y1,y2,y3⟩:=gL d;have e0:=gD d 0;have e1:=gD d 1;have e2:=gD d 2;have e3:=gD d 3;have J1:=O d;clear d;go_wp2_with fail;have R:=kl (s':=X) (a':=N) (n':=T) (c':=c5) (t':=false) (b':=P) (m':=S) (d':=Q) J1;obtain⟨z0,z1,z2,z3⟩:=gL R;refine ar (v:=.agg #[X,Z N T c5,false,Z P S Q]) ?_ rfl ?_
   .simp[results,results154,go_sem,z0,z1,z2,z3]
   .exact⟨X,N,T,c5,P,S,Q,rfl,F5.putG J1,iR (d0.trans (l.mono (by omega))) (bY _)⟩
def tT(g:jQ)(L:Int):Nat->Rat
 |0=>mkRat 1 1
 |i+1=>tT g L i+pT g (2*i)*kN L 1/(kN L 1+mkRat (-(g.co (2*i+1))) 1000000000)
def wk(g:jQ)(L:Int):Nat->Rat
 |0=>pT g 0+pT g 1*kN L 1
 |i+1=>if i<2 then pT g 0+pT g 1*kN L 1 else wk g L i+pT g i*kN L (1-(i:Int))
def iL(g:jQ)(L:Int):Rat:=if g.form=2 then mr g L 3*mr g L 3 else if g.form=1 then tT g L 3 else wk g L 6
def jQ.Far(g:jQ)(L:Int):Prop:=g.form=1-> ∀i,i<3->0<(kN L 1+mkRat (-(g.co (2*i+1))) 1000000000).num
def ml{w b g}(h:Nd w b g):w.cell? (J b)=some (.string g.nm)/\w.cell? ⟨b,1,none⟩=some (.int .i64 g.form)/\w.cell? ⟨b,2,none⟩=some (.int .i64 g.c0)/\w.cell? ⟨b,3,none⟩=some (.int .i64 g.c1)/\w.cell? ⟨b,4,none⟩=some (.int .i64 g.c2)/\w.cell? ⟨b,5,none⟩=some (.int .i64 g.c3)/\w.cell? ⟨b,6,none⟩=some (.int .i64 g.c4)/\w.cell? ⟨b,7,none⟩=some (.int .i64 g.c5)/\w.cell? ⟨b,8,none⟩=some (.int .i64 g.lo)/\w.cell? ⟨b,9,none⟩=some (.int .i64 g.hi):=by
 refine⟨?_,?_,?_,?_,?_,?_,?_,?_,?_,?_⟩ <;>exact(gA h _).trans rfl
def EM(g)(L:Int)(w)(hg:g.In)(h1:0<L)(h2:L<=2500000)(hf:g.form=2):
 Calls prog 188 #[.agg #[g.nm,g.form,g.c0,g.c1,g.c2,g.c3,g.c4,g.c5,g.lo,g.hi],L] w (Bh w (iL g L)):=by
 rw[show iL g L=mr g L 3*mr g L 3 by unfold iL;rw[aq hf]];obtain⟨i0,i1⟩:=iN w (.cells #[g.nm,g.form,g.c0,g.c1,g.c2,g.c3,g.c4,g.c5,g.lo,g.hi] 168) (.cells #[false,oN,false,oN] 243);have c:=iH (w:=w) (.cells #[g.nm,g.form,g.c0,g.c1,g.c2,g.c3,g.c4,g.c5,g.lo,g.hi] 168) (.cells #[false,oN,false,oN] 243);have N:=O i0;have P:=O i1;have b:=O c;have q:=uB hg h1 h2 3 (by omega);have Hf:=O hf;clear i0 i1 c hf;go_enter func188,ntmps188;go_upto_region 1 with fail;refine jp (fun d=>Nd d w g/\pO d (w+1) false none 0 0 false none 0 0/\Below w w d) ⟨N,P,b⟩ ?_;clear N P b;rintro w0 ⟨z,a,m⟩;have lg:=TK z;have l0:=TK a;obtain⟨z0,j,E,F,z4,z5,z6,z7,z8,z9⟩:=ml z;have hf:=Hf.out;rw[hf]at j;have J0:=O a;have K:=O m;have r:=O (Cc g L w0 hg h1 h2);clear z a m;rw[hf]at r;go_wp2_with fail;refine r.mono ?_;clear r z0 j E F z4 z5 z6 z7 z8 z9;rintro e D ⟨s1,a1,m1,c1,b1,k1,d1,rfl,p,f⟩;generalize mr g L 3=R at*;have S:=kG.new p;have c:=(TH D D).alloc (aa _) (.cells #[s1,Z a1 m1 c1,false,Z b1 k1 d1] 243);have k:=O S;have b:=O (f.trans (c.mono f.size));clear p S c f;go_upto_region 3 with fail;refine jp (fun d=>kG d D R/\Below w0 w0 d) ⟨k,b⟩ ?_;clear k b;rintro w2 ⟨v5,n⟩;obtain⟨s5,T,m5,c5,W,k5,X,q5,y⟩:=v5;obtain⟨x0,x1,x2,x3⟩:=gL q5;have H:=O (nM R R 37 37 s5 s5 T W T W m5 k5 c5 X m5 k5 c5 X w2 y y q q (by omega));have l:=O n;clear n q5 y;go_wp2_with fail;refine H.mono ?_;clear H x0 x1 x2 x3;rintro e w3 ⟨C,s,B,u,t,A,x,rfl,f6,o⟩;have h:=l.trans (o.mono l.size);have a:=(h.block _ l0).trans J0;obtain⟨y0,y1,y2,y3⟩:=gL a;have e0:=gD a 0;have e1:=gD a 1;have e2:=gD a 2;have e3:=gD a 3;have Q:=O a;have F6:=O f6;have M:=O h;clear a f6 h o;go_wp2_with fail;have i:=kl (s':=C) (a':=s) (n':=B) (c':=u) (t':=false) (b':=t) (m':=A) (d':=x) Q;obtain⟨z0,j,E,F⟩:=gL i;refine ar (v:=.agg #[C,Z s B u,false,Z t A x]) ?_ rfl ?_
 .simp[results,results188,go_sem,z0,j,E,F]
 .exact⟨C,s,B,u,t,A,x,rfl,F6.putG Q,iR (K.trans (M.mono (by omega))) (bY _)⟩
def GX{g}(a:g.In){L}(h:0<L)(h2:L<=2500000):∀i,i<=6->Sz (12*i+14) (wk g L i)
 |0,_=>(((tf a 0).add ((tf a 1).mul (qb h h2 (by omega) (by omega))))).mono (by omega)
 |i+1,hi=>by
  unfold wk;split
  .exact(((tf a 0).add ((tf a 1).mul (qb h h2 (by omega) (by omega))))).mono (by omega)
  .exact((GX a h h2 i (by omega)).add ((tf a i).mul (qb h h2 (by omega) (by omega)))).mono (by omega)
def Bi(g)(L:Int)(w)(hg:g.In)(h1:0<L)(h2:L<=2500000)(hf:(g.form==2)=false)(g1:(g.form==1)=false):
 Calls prog 188 #[.agg #[g.nm,g.form,g.c0,g.c1,g.c2,g.c3,g.c4,g.c5,g.lo,g.hi],L] w (Bh w (wk g L 6)):=by
 obtain⟨i0,i1⟩:=iN w (.cells #[g.nm,g.form,g.c0,g.c1,g.c2,g.c3,g.c4,g.c5,g.lo,g.hi] 168) (.cells #[false,oN,false,oN] 243);have W:=iH (w:=w) (.cells #[g.nm,g.form,g.c0,g.c1,g.c2,g.c3,g.c4,g.c5,g.lo,g.hi] 168) (.cells #[false,oN,false,oN] 243);have I0:=O i0;have I1:=O i1;have T:=O W;have Hf:=O hf;have h8:=O g1;clear i0 i1 W hf g1;go_enter func188,ntmps188;go_upto_region 1 with fail;refine jp (fun R=>Nd R w g/\pO R (w+1) false none 0 0 false none 0 0/\Below w w R) ⟨I0.out,I1.out,T.out⟩ ?_;clear I0 I1 T;rintro w0 ⟨t,F,f1⟩;have lg:=TK t;have l0:=TK F;have z1:=(ml t).2.1;have hf:=Hf.out;have JG:=O t;have J0:=O F;have h5:=O f1;clear t F f1;go_wp2_with fail;refine(uA L 1 w0 h1 h2 (by omega) (by omega)).mono ?_;clear z1;rintro e w1 ⟨s1,a1,m1,c1,b1,k1,d1,rfl,g7,a4⟩;have g4:=qb h1 h2 (n:=1) (by omega) (by omega);have V6:=kG.new g7;have W:=(TH w1 w1).alloc (aa _) (.cells #[s1,Z a1 m1 c1,false,Z b1 k1 d1] 243);have l1:=a4.size;have S:=O V6;have T:=O (a4.trans (W.mono a4.size));clear g7 V6 W a4;go_upto_region 5 with fail;refine jp (fun R=>kG R w1 (kN L 1)/\Below w0 w0 R) ⟨S.out,T.out⟩ ?_;clear S T;rintro w2 ⟨v6,b2⟩;have i9:=O l1;generalize w1.heap.size=g6 at*;clear l1;have t:=(b2.block _ lg).trans JG.out;have g9:=TK t;have l6:=v6.lt;obtain⟨z0,z1,z2,z3,z4,z5,z6,z7,z8,z9⟩:=ml t;have j1:=h8.out;have S:=O v6;have x:=O b2;clear v6 b2 t;obtain⟨s6,a6,m6,c6,b6,k6,d6,q6,P⟩:=S.out;obtain⟨x0,x1,x2,H⟩:=gL q6;have Q6:=O q6;have F6:=O P;clear q6 P;go_upto_region 13 with fail;refine ic 12 [] [(11,10,(.cells #[false,oN,false,oN] 243))] [(0,true),(1,true),(2,true),(4,true),(5,true),(6,true),(8,true),(3,false),(7,false),(9,false),(10,false)] (by kernel_rfl) (by kernel_rfl) ⟨by simp,by simp,by(simp only[ct];exact⟨⟨by omega,_,rfl,rfl,rfl,fun _ _=>rfl⟩,fun _ h=>by cases h⟩)⟩ (fun _ _ _ _ _ h=>h) (fun _ _ o _ _ h=>by cases o<;>exact h) ?_
 iterate 7
  refine gZ (v:=?_) ?_ ?_;rotate_left
  .intro y s
   have y0:=(s.cell (p:=J g6) l6).trans x0;have y1:=(s.cell (p:=⟨g6,1,none⟩) l6).trans x1;have y2:=(s.cell (p:=⟨g6,2,none⟩) l6).trans x2;have y3:=(s.cell (p:=⟨g6,3,none⟩) l6).trans H;have y4:=(s.cell (p:=⟨w.heap.size,2,none⟩) g9).trans z2;have y5:=(s.cell (p:=⟨w.heap.size,3,none⟩) g9).trans z3;go_simp;rfl
  try simp only[V]
 clear x0 x1 x2 H z0 z1 z2 z3 z4 z5 z6 z7 z8 z9;have k0:=hg 0;have k1:=hg 1;have s0:=tf hg 0;have s1:=tf hg 1;have e0:mkRat g.c0 1000000000=pT g 0:=rfl;have e1:mkRat g.c1 1000000000=pT g 1:=rfl;rw[show g.co 0=g.c0 from rfl]at k0;rw[show g.co 1=g.c1 from rfl]at k1;have E0:=O e0;have E1:=O e1;clear e0 e1;refine iK (fun x1 d0 K C=>?_);go_simp;refine(pQ g.c0 1000000000 x1 (by omega) (by omega) (by omega) (by omega)).mono ?_;rintro e wa ⟨s7,a7,m7,c7,b7,k7,d7,rfl,j,D⟩;refine C _ _ D ?_;clear C K;(try simp only[V]);rw[E0.out]at j;have a:=(gJ (k:=1) d0).trans (D.mono (gJ (k:=1) d0).size);have F7:=O j;have z:=O a;clear j a D d0;refine iK (fun x2 d2 K C=>?_);go_simp;refine(pQ g.c1 1000000000 x2 (by omega) (by omega) (by omega) (by omega)).mono ?_;rintro e wb ⟨s8,a8,m8,c8,b8,k8,d8,rfl,f8,f⟩;refine C _ _ f ?_;clear C K;(try simp only[V]);rw[E1.out]at f8;have d:=d2.trans (f.mono d2.size);have a:=z.out.trans (d.mono z.out.size);have j:=F7.out.go d;have G8:=O f8;have G7:=O j;have m:=O a;clear f8 j a d f d2 F7 z;refine iK (fun H a0 K C=>?_);go_simp;refine(nM (pT g 1) (kN L 1) 2 9 s8 s6 a8 b8 a6 b6 m8 k8 c8 d8 m6 k6 c6 d6 H (G8.out.go a0) ((F6.out.go m.out).go a0) s1 g4 (by omega)).mono ?_;rintro e wc ⟨s9,a9,m9,c9,b9,k9,d9,rfl,f9,r⟩;refine C _ _ r ?_;clear C K;(try simp only[V]);have d:=a0.trans (r.mono a0.size);have a:=m.out.trans (d.mono m.out.size);have j:=G7.out.go d;have G9:=O f9;have H7:=O j;have A:=O a;clear f9 j a d r a0 G7 G8 m;refine iK (fun x4 a2 K C=>?_);go_simp;refine(tR (pT g 0) (pT g 1*kN L 1) 2 11 s7 s9 a7 b7 a9 b9 m7 k7 c7 d7 m9 k9 c9 d9 x4 (H7.out.go a2) (G9.out.go a2) s0 (s1.mul g4) (by omega)).mono ?_;rintro e wd ⟨h3,e7,h0,e9,e8,g8,f0,rfl,N,E⟩;refine C _ _ E ?_;clear C K;(try simp only[V]);rw[show pT g 0+pT g 1*kN L 1=wk g L 2 from rfl]at N;have d:=a2.trans (E.mono a2.size);have a:=A.out.trans (d.mono A.out.size);have d4:=O N;have M:=O a;clear N a d E a2 H7 G9 A;refine nV (l:=[_]) rfl (fun c w4 hC b3 f3=>?_);(try simp only[V]);have g2:w2.heap.size<=c:=hC.1.1.1.1;have b0:=M.out.trans (b3.mono M.out.size);have N:=d4.out.go b3;have hz:pO w4 c false none 0 0 false none 0 0:=f3;have e6:kG ((((w4.setCell (J c) (.bool h3)).setCell ⟨c,1,none⟩ (.slice e7 h0 e9)).setCell ⟨c,2,none⟩ (.bool false)).setCell ⟨c,3,none⟩ (.slice e8 g8 f0)) c (wk g L 2):=⟨_,_,_,_,_,_,_,kl hz,N.putG hz⟩;obtain⟨x0,x1,x2,H⟩:=gL hz;have e0:=gD hz 0;have e1:=gD hz 1;have e2:=gD hz 2;have e3:=gD hz 3;have X:=x.out.trans (b0.mono x.out.size);have b4:w0.heap.size<=c:=af x.out.size g2;have a3:=O e6;have q:=O (iR (u:=.bool h3) (v:=.slice e7 h0 e9) (u2:=.bool false) (v2:=.slice e8 g8 f0) X b4);have e5:=O b4;clear e6 X b4 hz N b0 g2 f3 b3 hC d4 M;go_upto_region 14 with fail;refine jp (fun R=>kG R c (wk g L 2)/\Below w0 w0 R) ⟨a3.out,q.out⟩ ?_;clear e0 e1 e2 e3 x0 x1 x2 H a3 q S x Q6 F6 l6;rintro w5 ⟨h4,f2⟩;have e4:=O h4;have x:=O f2;clear h4 f2;have h9:=e5;clear e5;generalize hg5:c=g5 at*;clear hg5;go_wp2_with fail
 go_loopw [11] (fun iv wr=>∃k:Nat,iv=.int .i64 (k:Int)/\2<=k/\k<=6/\kG wr g5 (wk g L k)/\Below w0 w0 wr) (fun iv _=>6-(intOf iv).toNat)
 case atStart=>exact⟨2,rfl,by omega,by omega,e4.out,x.out⟩
 case round=>
  obtain⟨k,rfl,j2,hk,v5,X⟩:=hrel;have q:=O X;have V5:=O v5;obtain⟨s5,a5,m5,c5,b5,k5,d5,q5,B⟩:=v5;obtain⟨x0,x1,x2,H⟩:=gL q5;have l5:=TK q5;have Q5:=O q5;have F5:=O B;clear X q5 B e4 x;by_cases hlt:k<6
  .have t:=(q.out.block _ lg).trans JG.out
   have i8:=TK t;have y2:=EL t (i:=k) (by omega);have f4:=hg k;generalize hcc:g.co k=ck at*;have h6:=O hcc
   have j3:(k:Int) <6:=by omega
   clear t hcc;go_wp2_with fail;refine gS 12 [(0,true),(1,true),(2,true),(3,true),(4,true),(6,true),(7,true),(8,true),(5,false),(9,false),(10,false),(11,false)] (by kernel_rfl) (by kernel_rfl) ?_
   iterate 8
    refine gU (v:=?_) ?_ ?_;rotate_left
    .intro y s
     have z0:=(s.cell (p:=J g5) l5).trans x0;have z1:=(s.cell (p:=⟨g5,1,none⟩) l5).trans x1;have z2:=(s.cell (p:=⟨g5,2,none⟩) l5).trans x2;have z3:=(s.cell (p:=⟨g5,3,none⟩) l5).trans H;have z4:=(s.cell (p:=⟨w.heap.size,2+k,none⟩) i8).trans y2;go_simp;rfl
    try simp only[V]
   clear x0 x1 x2 H y2;have i6:=GX hg h1 h2 k (by omega);have g3:=qb h1 h2 (n:=1-(k:Int)) (by omega) (by omega);have g0:=tf hg k;have i2:=O (show wk g L (k+1)=wk g L k+pT g k*kN L (1-(k:Int))by conv=>lhs;unfold wk;rw[aj (by omega)]);have h7:=O (show mkRat ck 1000000000=pT g k by rw[<- h6.out];rfl);generalize hrn:wk g L (k+1)=rn at*;have i4:=O hrn;clear hrn;generalize wk g L k=r5 at*;generalize hpk:kN L (1-(k:Int))=pk at*;have i3:=O hpk;clear hpk;generalize pT g k=rc at*
   have i7:IntKind.i64.wrap (1-(k:Int))=1-(k:Int):=by simp[IntKind.wrap,IntKind.bits,IntKind.signed];omega
   (try simp only[i7]);refine gP (fun KK b=>?_);go_simp;refine(pQ ck 1000000000 _ (by have:=f4;omega) (by have:=f4;omega) (by omega) (by omega)).mono ?_;rintro e wa ⟨s6,a6,m6,c6,b6,k6,d6,rfl,P,D⟩;refine b _ _ D ?_;clear b KK;(try simp only[V]);rw[h7.out]at P;have Q:Below wr wr wa:=gJ (k:=1) D;have B:=F5.out.go Q;clear D;have z:=O Q;have F6:=O P;have G5:=O B;clear Q P B;refine gP (fun KK b=>?_);go_simp;refine(uA L (1-(k:Int)) _ h1 h2 (by omega) (by omega)).mono ?_;rintro e wb ⟨s7,a7,m7,c7,b7,k7,d7,rfl,j,f⟩;rw[i3.out]at j;refine b _ _ f ?_;clear b KK;(try simp only[V]);have B:=G5.out.go f;have P:=F6.out.go f;have a:=z.out.trans (f.mono z.out.size);have m:=O a;have G6:=O P;have G7:=O j;have K5:=O B;clear a P j B f z F6 G5;refine gP (fun KK b=>?_);go_simp;refine(nM rc pk 2 9 s6 s7 a6 b6 a7 b7 m6 k6 c6 d6 m7 k7 c7 d7 _ (by exact G6.out) (by exact G7.out) g0 g3 (by omega)).mono ?_;rintro e wc ⟨s8,a8,m8,c8,b8,k8,d8,rfl,f8,r⟩;refine b _ _ r ?_;clear b KK;(try simp only[V]);have B:=K5.out.go r;have a:=m.out.trans (r.mono m.out.size);have A:=O a;have G8:=O f8;have L5:=O B;clear a f8 B r m G6 G7 K5;refine gP (fun KK b=>?_);go_simp;refine(tR r5 (rc*pk) (12*k+14) 11 s5 s8 a5 b5 a8 b8 m5 k5 c5 d5 m8 k8 c8 d8 _ (by exact L5.out) (by exact G8.out) i6 (g0.mul g3) (by omega)).mono ?_;rintro e wd ⟨s9,a9,m9,c9,b9,k9,d9,rfl,f9,E⟩;refine b _ _ E ?_;clear b KK;(try simp only[V]);rw[<- i2.out]at f9;have a:=A.out.trans (E.mono A.out.size);have p5:=(a.block _ l5).trans Q5.out;obtain⟨x0,x1,x2,H⟩:=gL p5;have e0:=gD p5 0;have e1:=gD p5 1;have e2:=gD p5 2;have e3:=gD p5 3;have P5:=O p5;have F9:=O f9;have M:=O a;clear p5 f9 a E A G8 L5;refine iu rfl ?_;go_wp2_with fail
   go_roundw
   case rel=>
    have V5:kG wr g5 r5:=⟨_,_,_,_,_,_,_,Q5.out,F5.out⟩;exact⟨k+1,by go_num,by omega,by omega,by rw[i4.out];exact(V5.go M.out).put F9.out,iR (q.out.trans (M.out.mono q.out.size)) h9.out⟩
   case measure=>simp[intOf];omega
  .have i5:k=6:=by omega
   subst i5;have F:=(q.out.block _ l0).trans J0.out;obtain⟨y0,y1,y2,y3⟩:=gL F;have e0:=gD F 0;have e1:=gD F 1;have e2:=gD F 2;have e3:=gD F 3;have J1:=O F;clear F;go_wp2_with fail;have d3:=kl (s':=s5) (a':=a5) (n':=m5) (c':=c5) (t':=false) (b':=b5) (m':=k5) (d':=d5) J1.out;obtain⟨z0,z1,z2,z3⟩:=gL d3;refine ar (v:=.agg #[s5,Z a5 m5 c5,false,Z b5 k5 d5]) ?_ rfl ?_
   .simp[results,results188,go_sem,z0,z1,z2,z3]
   .exact⟨s5,a5,m5,c5,b5,k5,d5,rfl,F5.out.putG J1.out,iR (h5.out.trans (q.out.mono (by omega))) (bY _)⟩
def Di{g}(a:g.In){L}(h:0<L)(h2:L<=2500000)(hf:∀i,i<3->0<(kN L 1+mkRat (-(g.co (2*i+1))) 1000000000).num):∀i,i<=3->Sz (30*i+1) (tT g L i)
 |0,_=>Sz.mk (by omega) (by decide) (by decide)
 |i+1,hi=>by
  have c:=a (2*i+1);have b:Sz 3 (mkRat (-(g.co (2*i+1))) 1000000000):=Sz.mk (by omega) (by omega) (by omega);have hw:=qb h h2 (n:=1) (by omega) (by omega);exact((Di a h h2 hf i (by omega)).add ((((tf a (2*i)).mul hw).div (hw.add b) (hf i (by omega))))).mono (by omega)
def EN(g L w)(hg:g.In)(h1:0<L)(h2:L<=2500000)(hf:(g.form==2)=false)(i2:(g.form==1)=true)(t:∀i,i<3->0<(kN L 1+mkRat (-(g.co (2*i+1))) 1000000000).num):
 Calls prog 188 #[.agg #[g.nm,g.form,g.c0,g.c1,g.c2,g.c3,g.c4,g.c5,g.lo,g.hi],L] w (Bh w (tT g L 3)):=by
 obtain⟨i0,i1⟩:=iN w (.cells #[g.nm,g.form,g.c0,g.c1,g.c2,g.c3,g.c4,g.c5,g.lo,g.hi] 168) (.cells #[false,oN,false,oN] 243);have q:=iH (w:=w) (.cells #[g.nm,g.form,g.c0,g.c1,g.c2,g.c3,g.c4,g.c5,g.lo,g.hi] 168) (.cells #[false,oN,false,oN] 243);have I0:=O i0;have I1:=O i1;have A:=O q;have Hf:=O hf;have j2:=O i2;have a4:=O t;clear i0 i1 q hf i2 t;go_enter func188,ntmps188;go_upto_region 1 with fail;refine jp (fun z=>Nd z w g/\pO z (w+1) false none 0 0 false none 0 0/\Below w w z) ⟨I0,I1,A⟩ ?_;clear I0 I1 A;rintro w0 ⟨x,E,h5⟩;have lg:=TK x;have l0:=TK E;have z1:=(ml x).2.1;have hf:=Hf.out;have JG:=O x;have J0:=O E;have i9:=O h5;clear x E h5;go_wp2_with fail;refine(uA L 1 w0 h1 h2 (by omega) (by omega)).mono ?_;clear z1;rintro e w1 ⟨s1,a1,m1,c1,b1,k1,d1,rfl,M,a5⟩;have b5:=qb h1 h2 (n:=1) (by omega) (by omega);have V6:=kG.new M;have q:=(TH w1 w1).alloc (aa _) (.cells #[s1,Z a1 m1 c1,false,Z b1 k1 d1] 243);have l1:=a5.size;have f:=O V6;have A:=O (a5.trans (q.mono a5.size));clear M V6 q a5;go_upto_region 5 with fail;refine jp (fun z=>kG z w1 (kN L 1)/\Below w0 w0 z) ⟨f,A⟩ ?_;clear f A;rintro w2 ⟨T,e6⟩;have p5:=O l1;generalize w1.heap.size=g6 at*;clear l1;have x:=(e6.block _ lg).trans JG;have n1:=TK x;have F:=T.lt;obtain⟨z0,z1,z2,z3,z4,z5,z6,z7,z8,z9⟩:=ml x;have q4:=j2.out;have f:=O T;have a0:=O e6;clear T e6 x;go_upto_region 6 with fail;clear z0 z1 z2 z3 z4 z5 z6 z7 z8 z9;go_wp2_with fail;refine(pQ 1 1 _ (by omega) (by omega) (by omega) (by omega)).mono ?_;rintro e w3 ⟨s1,a1,m1,c1,b1,k1,d1,rfl,M,H⟩;rw[show mkRat 1 1=tT g L 0 from rfl]at M;have V7:=kG.new M;have q:=(TH w3 w3).alloc (aa _) (.cells #[s1,Z a1 m1 c1,false,Z b1 k1 d1] 243);have i6:=(f.go H).go q;have P:=O V7;have h0:=O i6;have A:=O (a0.trans ((H.trans (q.mono H.size)).mono a0.size))
 have b4:g6≠w3.heap.size:=by have:=f.lt;have:=H.size;omega
 have b3:w0.heap.size<=w3.heap.size:=af a0.size H.size;have f3:=O b4;have f2:=O b3;clear M V7 q H i6 b4 b3 f a0;go_upto_region 7 with fail;refine jp (fun z=>kG z w3 (tT g L 0)/\kG z g6 (kN L 1)/\Below w0 w0 z) ⟨P,h0,A⟩ ?_;clear P h0 A;rintro w4 ⟨v7,T,h6⟩;generalize w3.heap.size=g7 at*;have P:=O v7;have f:=O T;have g5:=O h6;clear v7 T h6 F n1;go_wp2_with fail
 go_loopw [8] (fun iv wr=>∃i:Nat,iv=.int .i64 ((2*i:Nat):Int)/\i<=3/\kG wr g7 (tT g L i)/\kG wr g6 (kN L 1)/\Below w0 w0 wr) (fun iv _=>6-(intOf iv).toNat)
 case atStart=>exact⟨0,rfl,aA _,P,f,g5⟩
 case round=>
  obtain⟨i,rfl,hi,v7,T,h8⟩:=hrel;have Q:=O h8;obtain⟨s7,a7,m7,c7,b7,k7,d7,q7,C⟩:=v7;obtain⟨x0,x1,x2,x3⟩:=gL q7;have l7:=TK q7;have Q7:=O q7;have F7:=O C;clear h8 q7 C P f g5;by_cases hlt:i<3
  .obtain⟨s6,a6,m6,c6,b6,k6,d6,q6,f6⟩:=T
   obtain⟨y0,y1,y2,y3⟩:=gL q6;have F:=TK q6;have x:=(Q.block _ lg).trans JG;have f1:=TK x;have u0:=EL x (i:=2*i) (by omega);have u1:=EL x (i:=2*i+1) (by omega);have q1:=hg (2*i);have q2:=hg (2*i+1);have h9:=tf hg (2*i);have t:=a4 i hlt;have m2:=Di hg h1 h2 a4 i (by omega);have j3:=O (show tT g L (i+1)=tT g L i+pT g (2*i)*kN L 1/(kN L 1+mkRat (-(g.co (2*i+1))) 1000000000)from rfl);have j1:=O (show mkRat (g.co (2*i)) 1000000000=pT g (2*i)from rfl);have i3:Sz 3 (mkRat (-(g.co (2*i+1))) 1000000000):=Sz.mk (by omega) (by omega) (by omega);have i5:Sz 11 (pT g (2*i)*kN L 1):=(h9.mul b5).mono (by omega);have i4:Sz 13 (kN L 1+mkRat (-(g.co (2*i+1))) 1000000000):=(b5.add i3).mono (by omega);have m0:Sz 24 (pT g (2*i)*kN L 1/(kN L 1+mkRat (-(g.co (2*i+1))) 1000000000)):=(i5.div i4 t).mono (by omega);have g0:IntKind.i64.wrap (-(g.co (2*i+1)))= -(g.co (2*i+1)):=TM _ (by omega);generalize g.co (2*i+1)=ck at*;generalize g.co (2*i)=cj at*;generalize pT g (2*i)=rj at*;generalize hrn:tT g L (i+1)=rn at*;have j4:=O hrn;generalize tT g L i=r7 at*;generalize kN L 1=W at*;generalize hj:2*i=j at*;have Hj:=O hj;have Q6:=O q6;have F6:=O f6
   have q5:(j:Int) <6:=by omega
   have l4:(j:Int)+1<6:=by omega
   have l5:(0:Int)<=(j:Int)+1:=by omega
   have m3:IntKind.i64.wrap ((j:Int)+1)=((j+1:Nat):Int):=by rw[TM _ (by omega)];rfl
   clear hrn x q6 f6 hj;go_upto_region 10 with fail;refine ic 10 [] [(9,9,(.cells #[false,oN,false,oN] 243))] [(0,true),(1,true),(2,true),(3,true),(4,true),(5,true),(6,true),(7,false),(8,false)] (by kernel_rfl) (by kernel_rfl) ⟨by simp,by simp,by(simp only[ct];exact⟨⟨by omega,_,rfl,rfl,rfl,fun _ _=>rfl⟩,fun _ h=>by cases h⟩)⟩ (fun _ _ _ _ _ h=>h) (fun _ _ o _ _ h=>by cases o<;>exact h) ?_
   iterate 7
    refine gZ (v:=?_) ?_ ?_;rotate_left
    .intro y b
     have p0:=(b.cell (p:=J g6) F).trans y0;have p1:=(b.cell (p:=⟨g6,1,none⟩) F).trans y1;have p2:=(b.cell (p:=⟨g6,2,none⟩) F).trans y2;have p3:=(b.cell (p:=⟨g6,3,none⟩) F).trans y3;have p4:=(b.cell (p:=⟨w.heap.size,2+(j+1),none⟩) f1).trans u1;go_simp;with_reducible rfl
    try simp only[V]
   clear y0 y1 y2 y3 u1 m3 l4 l5;have f4:=g0;refine iK (fun xa f0 K hK=>?_);go_simp;refine(pQ (-ck) 1000000000 xa (by omega) (by omega) (by omega) (by omega)).mono ?_;rintro e wa ⟨s8,a8,m8,c8,b8,k8,d8,rfl,f8,D⟩;refine hK _ _ D ?_;clear hK K;(try simp only[V]);have s:=(gJ (k:=1) f0).trans (D.mono (gJ (k:=1) f0).size);have G8:=O f8;have a2:=O s;clear f8 s D f0 f4;refine iK (fun xb R K hK=>?_);go_simp;refine(tR W (mkRat (-ck) 1000000000) 9 3 s6 s8 a6 b6 a8 b8 m6 k6 c6 d6 m8 k8 c8 d8 xb ((F6.go a2).go R) (G8.go R) b5 i3 (by omega)).mono ?_;rintro e wb ⟨s9,a9,m9,c9,b9,k9,d9,rfl,m,r⟩;refine hK _ _ r ?_;clear hK K;(try simp only[V]);have i7:=R.trans (r.mono R.size);have s:=a2.trans (i7.mono a2.size);have G9:=O m;have d2:=O s;clear m s i7 r R G8 a2;refine nV (l:=[_]) rfl (fun B w5 hC e7 h7=>?_);(try simp only[V]);have e9:wr.heap.size<=B:=hC.1.1;have b2:=d2.trans (e7.mono d2.size);have m:=G9.go e7;have S:pO w5 B false none 0 0 false none 0 0:=h7;have V9:kG ((((w5.setCell (J B) (.bool s9)).setCell ⟨B,1,none⟩ (.slice a9 m9 c9)).setCell ⟨B,2,none⟩ (.bool false)).setCell ⟨B,3,none⟩ (.slice b9 k9 d9)) B (W+mkRat (-ck) 1000000000):=⟨_,_,_,_,_,_,_,kl S,m.putG S⟩;obtain⟨p0,p1,p2,p3⟩:=gL S;have e0:=gD S 0;have e1:=gD S 1;have e2:=gD S 2;have e3:=gD S 3;have g4:=O V9;have g8:=O (iR (u:=.bool s9) (v:=.slice a9 m9 c9) (u2:=.bool false) (v2:=.slice b9 k9 d9) b2 e9);have p6:=O e9;clear V9 b2 S m e9 h7 e7 hC G9 d2;go_upto_region 11 with fail;refine jp (fun z=>kG z B (W+mkRat (-ck) 1000000000)/\Below wr wr z) ⟨g4,g8⟩ ?_;clear e0 e1 e2 e3 p0 p1 p2 p3 g4 g8;rintro w6 ⟨v9,a⟩;obtain⟨s9,a9,m9,c9,b9,k9,d9,q9,m⟩:=v9;obtain⟨p0,p1,p2,p3⟩:=gL q9;have l9:=TK q9;have y0:=(a.cell (p:=J g6) F).trans (gL Q6).1;have y1:=(a.cell (p:=⟨g6,1,none⟩) F).trans (gL Q6).2.1;have y2:=(a.cell (p:=⟨g6,2,none⟩) F).trans (gL Q6).2.2.1;have y3:=(a.cell (p:=⟨g6,3,none⟩) F).trans (gL Q6).2.2.2;have t0:=(a.cell (p:=J g7) l7).trans x0;have t1:=(a.cell (p:=⟨g7,1,none⟩) l7).trans x1;have t2:=(a.cell (p:=⟨g7,2,none⟩) l7).trans x2;have t3:=(a.cell (p:=⟨g7,3,none⟩) l7).trans x3;have t4:=(a.cell (p:=⟨w.heap.size,2+j,none⟩) f1).trans u0;have n6:g6<w6.heap.size:=ab F a.size;have n7:g7<w6.heap.size:=ab l7 a.size;have ng:w.heap.size<w6.heap.size:=ab f1 a.size;have F9:=O m;have d0:=O a;clear m a x0 x1 x2 x3 u0;refine gS 11 [(0,true),(1,true),(2,true),(3,true),(4,true),(6,true),(8,true),(5,false),(7,false),(9,false),(10,false)] (by kernel_rfl) (by kernel_rfl) ?_
   iterate 7
    refine gU (v:=?_) ?_ ?_;rotate_left
    .intro y b
     have o0:=(b.cell (p:=J g6) n6).trans y0;have o1:=(b.cell (p:=⟨g6,1,none⟩) n6).trans y1;have o2:=(b.cell (p:=⟨g6,2,none⟩) n6).trans y2;have o3:=(b.cell (p:=⟨g6,3,none⟩) n6).trans y3;have o4:=(b.cell (p:=J g7) n7).trans t0;have o5:=(b.cell (p:=⟨g7,1,none⟩) n7).trans t1;have o6:=(b.cell (p:=⟨g7,2,none⟩) n7).trans t2;have o7:=(b.cell (p:=⟨g7,3,none⟩) n7).trans t3;have o8:=(b.cell (p:=J B) l9).trans p0;have o9:=(b.cell (p:=⟨B,1,none⟩) l9).trans p1;have r1:=(b.cell (p:=⟨B,2,none⟩) l9).trans p2;have r2:=(b.cell (p:=⟨B,3,none⟩) l9).trans p3;have r3:=(b.cell (p:=⟨w.heap.size,2+j,none⟩) ng).trans t4;go_simp;with_reducible rfl
    try simp only[V]
   clear y0 y1 y2 y3 t0 t1 t2 t3 t4 p0 p1 p2 p3;refine gP (fun X c=>?_);go_simp;refine(pQ cj 1000000000 _ (by omega) (by omega) (by omega) (by omega)).mono ?_;rintro e wa ⟨n5,j5,n2,k2,j8,m4,k5,rfl,e4,D⟩;refine c _ _ D ?_;clear c X;(try simp only[V]);rw[j1]at e4;have N:Below w6 w6 wa:=gJ (k:=1) D;have d:=d0.trans (N.mono d0.size);have f6:=F6.go d;have C:=F7.go d;have m:=F9.go N;have d3:=O d;have A6:=O f6;have A7:=O C;have A9:=O m;have g1:=O e4;clear D N d f6 C m e4 F9 d0;refine gP (fun X c=>?_);go_simp;refine(nM rj W 2 9 n5 s6 j5 j8 a6 b6 n2 m4 k2 k5 m6 k6 c6 d6 _ (by exact g1) (by exact A6) h9 b5 (by omega)).mono ?_;rintro e wb ⟨n8,j6,n3,k3,j9,m5,l2,rfl,h3,r⟩;refine c _ _ r ?_;clear c X;(try simp only[V]);have d:=d3.trans (r.mono d3.size);have C:=A7.go r;have m:=A9.go r;have d4:=O d;have B7:=O C;have B9:=O m;have g2:=O h3;clear r d C m h3 A6 A7 A9 g1 d3;refine gP (fun X c=>?_);go_simp;refine(Cb (rj*W) (W+mkRat (-ck) 1000000000) 11 13 n8 s9 j6 j9 a9 b9 n3 m5 k3 l2 m9 k9 c9 d9 _ (by exact g2) (by exact B9) i5 i4 (by omega) t).mono ?_;rintro e wc ⟨n9,j7,n4,k4,k0,n0,l3,rfl,h4,b0⟩;refine c _ _ b0 ?_;clear c X;(try simp only[V]);have d:=d4.trans (b0.mono d4.size);have C:=B7.go b0;have d5:=O d;have C7:=O C;have g3:=O h4;clear b0 d C h4 B7 B9 g2 d4;refine gP (fun X c=>?_);go_simp;refine(tR r7 (rj*W/(W+mkRat (-ck) 1000000000)) (30*i+1) 24 s7 n9 a7 b7 j7 k0 m7 k7 c7 d7 n4 n0 k4 l3 _ (by exact C7) (by exact g3) m2 m0 (by omega)).mono ?_;rintro e wd ⟨r4,p8,r0,q0,p9,q8,q3,rfl,e5,e8⟩;refine c _ _ e8 ?_;clear c X;(try simp only[V]);rw[<- j3]at e5;have s:=d5.trans (e8.mono d5.size);have p7:=(s.block _ l7).trans Q7;obtain⟨x0,x1,x2,x3⟩:=gL p7;have e0:=gD p7 0;have e1:=gD p7 1;have e2:=gD p7 2;have e3:=gD p7 3;have P7:=O p7;have i8:=O e5;have a3:=O s;clear p7 e5 s e8 d5 C7 g3;refine iu rfl ?_;go_wp2_with fail
   go_roundw
   case rel=>
    have V7:kG wr g7 r7:=⟨_,_,_,_,_,_,_,Q7,F7⟩;have V6:kG wr g6 W:=⟨_,_,_,_,_,_,_,Q6,F6⟩;exact⟨i+1,by have:=Hj.out;go_num,by omega,by rw[j4];exact(V7.go a3).put i8,(V6.go a3).other (V7.go a3) f3,iR (Q.trans (a3.mono Q.size)) f2⟩
   case measure=>have:=Hj.out;simp[intOf];omega
  .have l8:i=3:=by omega
   subst l8;have E:=(Q.block _ l0).trans J0;obtain⟨y0,y1,y2,y3⟩:=gL E;have e0:=gD E 0;have e1:=gD E 1;have e2:=gD E 2;have e3:=gD E 3;have J1:=O E;clear E;go_wp2_with fail;have f5:=kl (s':=s7) (a':=a7) (n':=m7) (c':=c7) (t':=false) (b':=b7) (m':=k7) (d':=d7) J1;obtain⟨z0,z1,z2,z3⟩:=gL f5;refine ar (v:=.agg #[s7,Z a7 m7 c7,false,Z b7 k7 d7]) ?_ rfl ?_
   .simp[results,results188,go_sem,z0,z1,z2,z3]
   .exact⟨s7,a7,m7,c7,b7,k7,d7,rfl,F7.putG J1,iR (i9.trans (Q.mono (by omega))) (bY _)⟩
def GY(g)(L:Int)(w)(d:g.In)(h1:0<L)(h2:L<=2500000)(c:g.Far L):
 Calls prog 188 #[.agg #[g.nm,g.form,g.c0,g.c1,g.c2,g.c3,g.c4,g.c5,g.lo,g.hi],L] w (Bh w (iL g L)):=by
 by_cases b:g.form=2
 .exact EM g L w d h1 h2 b
 .by_cases a:g.form=1
  .have:=EN g L w d h1 h2 (by simpa using b) (by simpa using a) (c a)
   unfold iL;rw[aj b,aq a];exact this
  .have:=Bi g L w d h1 h2 (by simpa using b) (by simpa using a)
   unfold iL;rw[aj b,aj a];exact this
def KG(r k s a b n m c d)(w:World)(h:QL w w s a n c b m d r)(hs:Sz k r)(hk:k<=599):
 Calls prog 189 #[.agg #[s,Z a n c,false,Z b m d]] w (iZ w (.tuple #[.int .i64 (oG r.num 0),oZ])):=by
 have hm:=h.m hs;have t:=(TH w w).alloc (aa _) (.cells #[s,Z a n c,false,Z b m d] 243);have S:pO (w.alloc (.cells #[s,Z a n c,false,Z b m d] 243)) w s a n c false b m d:=TL w _;have M:=O (h.go t);have B:=O t;have P:=O S;clear t S h;go_enter func189,ntmps189;go_upto_region 1 with fail;refine jp (fun z=>pO z w s a n c false b m d/\QL z z s a n c b m d r/\Below w w z) ⟨P,M,B⟩ ?_;clear P M B;rintro w0 ⟨q,f,E⟩;obtain⟨A,x1,x2,L⟩:=gL q;have l0:=TK q;have F:=O f;have Q:=O q;have o:=O E;clear f q E;go_wp2_with fail;refine(mF r s a b n m c d w0 F (by omega)).mono ?_;rintro e W ⟨rfl,l⟩;clear A x1 x2 L;have q:=(l.block _ l0).trans Q;obtain⟨A,x1,x2,L⟩:=gL q;have l1:=TK q;have F1:=O (F.go l);have C:=O (o.trans (l.mono o.size));clear q l F o Q;go_upto_region 3 with fail;refine gS 4 [(0,true),(1,true),(2,false),(3,false)] (by kernel_rfl) (by kernel_rfl) ?_
 iterate 2
  refine gU (v:=?_) ?_ ?_;rotate_left
  .intro y T
   have y0:=(T.cell (p:=J (w.heap.size)) l1).trans A;have y1:=(T.cell (p:=⟨w.heap.size,1,none⟩) l1).trans x1;go_simp;with_reducible rfl
  try simp only[V]
 clear A x1 x2 L;refine gP (fun K i=>?_);go_simp;refine(oT 0 _ (by omega) (by omega)).mono ?_;rintro e X ⟨s2,a2,n2,c2,rfl,H,u,-⟩;refine i _ _ u ?_;clear i K;(try simp only[V]);have g:Below W W X:=gJ (k:=1) u;have R:=F1.n.go g;have j:=C.trans (g.mono C.size);have F2:=O R;have L2:=O H;have D:=O j;clear u g R H j;refine gP (fun K i=>?_);go_simp;refine(uy s s2 r.num 0 a a2 n n2 c c2 X F2 L2).mono ?_;rintro e w3 ⟨rfl,x⟩;refine i _ _ x ?_;clear i K;(try simp only[V]);have N:=O (D.trans (x.mono D.size));clear x;refine iu rfl ?_;go_wp2_with fail;refine ar (v:=.tuple #[.int .i64 (oG r.num 0),oZ]) ?_ rfl ⟨rfl,N⟩;simp[results,results189,go_sem]
def Cd(r k s a b n m c d)(w:World)(h:QL w w s a n c b m d r)(z:Sz k r)(y:k<=599):
 Calls prog 153 #[.agg #[s,Z a n c,false,Z b m d]] w (iZ w (.int .i64 (oG r.num 0))):=by
 have g:=(TH w w).alloc (aa _) (.cells #[s,Z a n c,false,Z b m d] 243);have x:pO (w.alloc (.cells #[s,Z a n c,false,Z b m d] 243)) w s a n c false b m d:=TL w _;have t:=O (h.go g);have j:=O g;have v:=O x;clear g x h;go_enter func153,ntmps153;go_upto_region 1 with fail;refine jp (fun i=>pO i w s a n c false b m d/\QL i i s a n c b m d r/\Below w w i) ⟨v,t,j⟩ ?_;clear v t j;rintro w0 ⟨q,f,o⟩;obtain⟨A,x1,x2,B⟩:=gL q;have F:=O f;have l:=O o;clear f q o;go_wp2_with fail;refine(KG r k s a b n m c d w0 F z y).mono ?_;rintro e C ⟨rfl,p⟩;have u:=O (l.trans (p.mono l.size));clear p A x1 x2 B;go_wp2_with fail;go_ret;exact⟨rfl,u⟩
def PB{N w a n c zs g s a' n' c'}(h:SL N w a n c zs)(l:td w g s a' n' c'):∀b off,a=some ⟨b,off,none⟩->0<n->b≠g:=by
 rintro b off e f rfl;obtain⟨b1,i,d,_,j⟩:=h.at f;rw[e]at d;cases d;have h0:=j 0 f;rw[gA l]at h0
 match hoff:off+0,h0 with
 |0,h0=>simp at h0
 |1,h0=>simp at h0
 |k+2,h0=>simp at h0
def re{w:World}{s a n c z g s' a' n' c' u v}(h:LG w w s a n c z)(d:td w g s' a' n' c'):
 LG ((w.setCell (J g) u).setCell ⟨g,1,none⟩ v).heap.size ((w.setCell (J g) u).setCell ⟨g,1,none⟩ v) s a n c z:=by
 have b:=PB h.2.1 d;have:=(h.setCell (J g) u b).setCell ⟨g,1,none⟩ v b;simpa using this
def nD{B w w' g u v}(h:Below B w w')(a:B<=g):Below B w ((w'.setCell (J g) u).setCell ⟨g,1,none⟩ v):=qB (qB h a) a
def uO(w:World)(g:Nat)(z:Int):Prop:=∃s a n c,td w g s a n c/\LG w w s a n c z
def uO.new{w:World}{s a n c z}(h:LG w w s a n c z):uO (w.alloc (.cells #[s,Z a n c] 221)) w z:=
 ⟨s,a,n,c,TL w _,h.go ((TH _ _).alloc (aa _) _)⟩
def uO.put{w g z y s a n c}(h:uO w g y)(b:LG w w s a n c z):
 uO ((w.setCell (J g) (.bool s)).setCell ⟨g,1,none⟩ (.slice a n c)) g z:=by
 obtain⟨s',a',n',c',h1,h2⟩:=h;exact⟨s,a,n,c,pZ h1,re b h1⟩
def Nf(E)(x y:Nat)(a b n m c d)(w:World)(l:LG w w E a n c (x:Int))(p:LG w w false b m d (y:Int))(hy:0<y)(hm:m<=599):
 Calls prog 193 #[.agg #[E,Z a n c],.agg #[false,Z b m d]] w (tb w ((x/y:Nat):Int)):=by
 have X:E=false:=by rw[l.1];simp
 subst X;have g:=oF w (.cells #[false,Z a n c] 221) (.cells #[false,Z b m d] 221) (.cells #[false,oN] 221);obtain⟨i0,i1,i2⟩:=jh w (.cells #[false,Z a n c] 221) (.cells #[false,Z b m d] 221) (.cells #[false,oN] 221);have t:=O (l.go g);have u:=O (p.go g);have M:=O i0;have N:=O i1;have P:=O i2;have j:=O g;clear l p i0 i1 i2 g;go_enter func193,ntmps193;go_upto_region 1 with fail;refine jp (fun f=>td f w false a n c/\td f (w+1) false b m d/\td f (w+2) false none 0 0/\LG f f false a n c (x:Int)/\LG f f false b m d (y:Int)/\Below w w f) ⟨M,N,P,t,u,j⟩ ?_;clear t u M N P j;rintro w0 ⟨j0,j1,h,l,p,C⟩;obtain⟨x0,x1,_,_⟩:=gQ j0;obtain⟨y0,y1,_,_⟩:=gQ j1;have l2:=TK h;have Q:=O h;have t:=O l;have u:=O p;have o:=O C;clear j0 j1 h l p C;go_wp2_with fail;refine(oO false false (x:Int) (y:Int) x y (aB _) (aB _) a b n m c d w0 t u hy hm).mono ?_;rintro e A ⟨s1,a1,i,c1,s2,a2,D,c2,rfl,h1,h2,q,f1,f2⟩;rw[show Bd false false (x/y)=((x/y:Nat):Int)from rfl]at h1
 have W:s2=false:=by rw[h2.1];exact aw (by unfold GN;simp;omega)
 subst W;clear x0 x1 y0 y1 h2 f2;obtain⟨S,T⟩:=iN A (.cells #[s1,Z a1 i c1] 221) (.cells #[false,Z a2 D c2] 221);have k:=iH (w:=A) (.cells #[s1,Z a1 i c1] 221) (.cells #[false,Z a2 D c2] 221);have F:=O S;have H:=O T;have K:=O k;have s:=O (h1.go k);have B:=O (q.trans (k.mono q.size));have F1:=O f1;clear S T k h1 q f1;go_upto_region 2 with fail;refine jp (fun f=>td f A s1 a1 i c1/\td f (A+1) false a2 D c2/\LG f f s1 a1 i c1 ((x/y:Nat):Int)/\Below w0 w0 f) ⟨F,H,s,B⟩ ?_;clear F H s B K;rintro w2 ⟨k1,k2,h1,r⟩;obtain⟨x0,x1,_,_⟩:=gQ k1;obtain⟨y0,y1,_,_⟩:=gQ k2;have h:=(r.block _ l2).trans Q;obtain⟨z0,z1,g0,g1⟩:=gQ h;have R:=O h;have s:=O h1;have L:=O r;clear k1 k2 h1 r h Q;go_wp2_with fail;have z:=pZ (s':=s1) (a':=a1) (n':=i) (c':=c1) R;obtain⟨q0,q1,_,_⟩:=gQ z;refine ar (v:=.agg #[s1,Z a1 i c1]) ?_ rfl ?_
 .simp[results,results193,go_sem,q0,q1]
 .exact⟨s1,a1,i,c1,rfl,re s R,nD (o.trans (L.mono o.size)) (by omega),F1.mono (by have:=o.size;omega)⟩
def Ce(r)(k x:Nat)(s a b n m c d)(w:World)(h:QL w w s a n c b m d r)(hs:Sz k r)(hk:k<=599)(hx:r.num=(x:Int)):
 Calls prog 155 #[.agg #[s,Z a n c,false,Z b m d]] w (S3 w ((x/r.den:Nat):Int)):=by
 have hm:=h.m hs;obtain⟨i0,i1⟩:=iN w (.cells #[s,Z a n c,false,Z b m d] 243) (.cells #[false,oN] 221);have g:=iH (w:=w) (.cells #[s,Z a n c,false,Z b m d] 243) (.cells #[false,oN] 221);have W:=O (h.go g);have D:=O g;have I0:=O i0;have I1:=O i1;clear g i0 i1 h;go_enter func155,ntmps155;go_upto_region 1 with fail;refine jp (fun i=>pO i w s a n c false b m d/\td i (w+1) false none 0 0/\QL i i s a n c b m d r/\Below w w i) ⟨I0,I1,W,D⟩ ?_;clear I0 I1 W D;rintro w0 ⟨q,j,f,K⟩;obtain⟨B,x1,x2,P⟩:=gL q;have l0:=TK q;have l1:=TK j;have F:=O f;have Q:=O q;have t:=O K;have H:=O j;clear f q K j;go_wp2_with fail;refine(mF r s a b n m c d w0 F (by omega)).mono ?_;rintro e N ⟨rfl,l⟩;clear B x1 x2 P;obtain⟨B,x1,x2,P⟩:=gL ((l.block _ l0).trans Q);have f1:=F.go l;have fn:=f1.n;rw[hx]at fn;have L:=O ((l.block _ l1).trans H);have S:=O fn;have R:=O f1.d;have u:=O (t.trans (l.mono t.size));have a0:=O l.size;clear l F t Q H f1 fn;go_wp2_with fail;refine(Nf s x r.den a b n m c d N S R (bq r.den_nz) (by omega)).mono ?_;rintro e p ⟨s2,a2,o,c2,rfl,h2,y,f2⟩;clear B x1 x2 P;have g:=(TH p p).alloc (aa _) (.cells #[s2,Z a2 o c2] 221);have V4:td (p.alloc (.cells #[s2,Z a2 o c2] 221)) p s2 a2 o c2:=TL p _;have T:=O (h2.go g);have E:=O (y.trans (g.mono y.size));have C:=O V4;have F2:=O f2;have a1:=h2.2.2;clear h2 y V4 f2 g S R;go_upto_region 4 with fail;refine jp (fun i=>td i p s2 a2 o c2/\LG i i s2 a2 o c2 ((x/r.den:Nat):Int)/\Below N N i) ⟨C,T,E⟩ ?_;clear C T E;rintro w3 ⟨k1,h1,z⟩;obtain⟨B,x1,_,_⟩:=gQ k1;have M:=(z.block _ (TK L)).trans L;obtain⟨z0,z1,g0,g1⟩:=gQ M
 have a3:¬(600:Int) <(o:Int):=by omega
 have K2:=O M;have H1:=O h1;have X:=O z;clear k1 h1 z M L;go_wp2_with fail;have A:=pZ (s':=s2) (a':=a2) (n':=o) (c':=c2) K2;obtain⟨q0,q1,_,_⟩:=gQ A;refine ar (v:=.tuple #[.agg #[s2,Z a2 o c2],oZ]) ?_ rfl ?_
 .simp[results,results155,go_sem,q0,q1]
 .exact⟨s2,a2,o,c2,rfl,re H1 K2,nD (u.trans (X.mono u.size)) (by omega),F2.mono (by have:=u.size;omega)⟩
def S7(x q):4*(x*q)<=(x+q)*(x+q):=by
 obtain h|h:=Nat.le_total x q
 .obtain⟨e,rfl⟩:=gg h
  have:(x+(x+e))*(x+(x+e))=4*(x*(x+e))+e*e:=by grind
  omega
 .obtain⟨e,rfl⟩:=gg h
  have:((q+e)+q)*((q+e)+q)=4*((q+e)*q)+e*e:=by grind
  omega
def KH(a x)(b:0<x):a<((x+a/x)/2+1)*((x+a/x)/2+1):=by
 have h1:a<x*(a/x+1):=Nat.lt_mul_div_succ a b;generalize a/x=q at*;have h2:=S7 x (q+1)
 have h3:x+(q+1)<=2*((x+q)/2+1):=by omega
 generalize(x+q)/2+1=t at*;have c:=cB h3 h3
 have h5:2*t*(2*t)=4*(t*t):=by grind
 omega
def GZ(a x)(b:0<x)(h:x<=(x+a/x)/2):x*x<=a:=by
 have:x<=a/x:=by omega
 exact(Nat.le_div_iff_mul_le b).1 this
def Ng{a x s}(h1:x*x<=a)(h2:a<(x+1)*(x+1))(k1:s*s<=a)(b:a<(s+1)*(s+1)):x=s:=by
 obtain h|h|h:=Nat.lt_trichotomy x s
 .have:=cB (show x+1<=s from h) (show x+1<=s from h);omega
 .exact h
 .have:=cB (show s+1<=x from h) (show s+1<=x from h);omega
def HH(a x)(b:0<a)(c:0<x):0<(x+a/x)/2:=by
 obtain h|h:=dC x 2
 .obtain rfl:x=1:=by omega
  rw[Nat.div_one];omega
 .generalize a/x=q at*
  omega
def Nh{A x k}(c:A<1000000000^k)(e:x<=1000000000^(k/2+1))(d:1<=k)(a:k<=590):(ip (x+A/x)).length<=600:=by
 refine af (iB (k:=k+2) ?_) (by omega);have h1:A/x<=A:=dp _ _;have h2:(1000000000:Nat)^(k/2+1)<=1000000000^(k+1):=zH (by omega);have h3:(1000000000:Nat)^(k+2)=1000000000^(k+1)*1000000000:=bM _ _;have b:(1000000000:Nat)^(k+1)=1000000000^k*1000000000:=bM _ _;omega
def KI(A S:Nat)(s a n c)(w:World)(h:LG w w s a n c (A:Int))(h0:0<A)(hS:S*S<=A)(f2:A<(S+1)*(S+1))(hn:n<=590):
 Calls prog 197 #[.agg #[s,Z a n c]] w (QW w (S:Int)):=by
 have B:=mW h;rw[aB]at B
 have k7:s=false:=by rw[h.1];simp
 subst k7
 have l8:n≠0:=fun e=>by rw[e]at B;have:=jC.1 B.symm;omega
 have f1:A<1000000000^n:=by have:=sb A;rw[<- B]at this;exact this
 obtain⟨i0,i1⟩:=iN w (.cells #[false,Z a n c] 221) (.cells #[false,oN] 221);have d:=iH (w:=w) (.cells #[false,Z a n c] 221) (.cells #[false,oN] 221);have HL:=O (h.go d);have d8:=O d;have I0:=O i0;have I1:=O i1;have b3:=O f1;have i6:=O B;have HS:=O hS;have i4:=O f2;clear d i0 i1 h f1 B hS f2;go_enter func197,ntmps197;go_upto_region 1 with fail;refine jp (fun b=>td b w false a n c/\td b (w+1) false none 0 0/\LG b b false a n c (A:Int)/\Below w w b) ⟨I0,I1,HL,d8⟩ ?_;clear I0 I1 HL d8;rintro w0 ⟨l,m,f,f3⟩;obtain⟨N,x1,_,_⟩:=gQ l;have l0:=TK l;have l1:=TK m;have Q:=O l;have R:=O m;have F:=O f;have b4:=O f3;clear l m f f3
 have k3:((n:Int)==0)=false:=by simp;omega
 have j4:IntKind.i64.wrap ((n:Int).tdiv 2)=((n/2:Nat):Int):=by
  rw[bL (by omega),TM _ (by omega)];omega
 have j5:IntKind.i64.wrap (((n/2:Nat):Int)+2)=((n/2+2:Nat):Int):=by
  rw[TM _ (by omega)];omega
 go_wp2_with(refine oE rfl (.tmp 18) (.tmp 18) 162 rfl underlying162 _ (n/2+2) rfl rfl (by omega) (by omega) ?_)
 intro w1 p f5;have d9:=O (show Below w0 w0 w1 from f5);clear f5 N x1 j4 j5 k3;have j7:∃j,n/2+2=j+1/\j=n/2+1:=⟨n/2+1,rfl,rfl⟩;obtain⟨j,hj,g4⟩:=j7;rw[hj]at p
 try rw[hj]
 have H:=O g4;have k2:IntKind.i64.wrap (j:Int)=(j:Int):=TM _ (by omega)
 have d3:IntKind.i64.wrap (((j+1:Nat):Int)-1)=(j:Int):=by rw[TM _ (by omega)];omega
 have j9:(j:Int) <(j:Int)+1:=by omega
 have P:=p.cell (j:=j) (by simp);have y1:=p.free j;have f9:=p.set j (by simp) 1;have M:Below w0 w0 (w1.setCell ⟨w0.heap.size,j,none⟩ (.int .i64 1)):=qB d9 (aa _)
 have c2:((List.replicate (j+1) (0:Int)).set j 1).length=j+1:=by simp
 have h4:val ((List.replicate (j+1) (0:Int)).set j 1)=((1000000000^j:Nat):Int):=by
  rw[Jj (by simp),uQ];simp
 have g9:mv ((List.replicate (j+1) (0:Int)).set j 1):=by
  intro i hi;rw[ah,cF];by_cases e:j=i
  .subst e;simp
  .rw[aj e]
   by_cases j6:i<j+1
   .simp[eR,j6]
   .simp at hi;omega
 have C:=f9.sl (c:=j+1) (by rw[c2];exact aa _);rw[c2]at C;generalize(List.replicate (j+1) (0:Int)).set j 1=zs at*;have K:=O C;have b9:=O h4;have e7:=O g9;have l:=(M.block _ l0).trans Q;have m:=(M.block _ l1).trans R;have L:=F.go M;have K0:=O l;have K1:=O m;have Fz:=O L;have e5:=O (b4.trans (M.mono b4.size));clear p f9 g4 M C h4 g9 Q R F b4 d9 l m L hj;go_upto_region 5 with fail;refine jp (fun b=>td b w false a n c/\td b (w+1) false none 0 0/\LG b b false a n c (A:Int)/\SL b b (J (w0.heap.size)) (j+1) (j+1) zs/\Below w w b) ⟨K0,K1,Fz,K,e5⟩ ?_;clear K0 K1 Fz K e5 P y1 j9 k2 d3;rintro w2 ⟨l,m,L,C,f6⟩;generalize w0.heap.size=g at*;have l0:=TK l;have l1:=TK m;have Q:=O l;have R:=O m;have F:=O L;have K:=O C;have b5:=O f6;clear l m L C f6;go_wp2_with fail;refine(nl false zs ((1000000000^j:Nat):Int) _ (j+1) (j+1) w2 K e7 (by have:=H.out;omega) (by rw[b9,aI];exact af (iB (k:=j+1) (Nat.pow_lt_pow_right (by omega) (by omega))) (by have:=H.out;omega)) (by rw[b9];rfl)).mono ?_;rintro e w3 ⟨s3,a3,n3,c3,rfl,h3,a0,-⟩;have V4:=uO.new h3;have d:=(TH w3 w3).alloc (aa _) (.cells #[s3,Z a3 n3 c3] 221);have t:=a0.trans (d.mono a0.size);have d7:=O V4;have o:=O t;have e6:=O a0.size;clear V4 d t a0 h3 K
 have j8:j+1<=599:=by have:=H.out;omega
 have f0:A<(1000000000^j+1)*(1000000000^j+1):=by
  have h1:=b3.out;have h2:(1000000000:Nat)^n<=1000000000^(j+j):=zH (by have:=H.out;omega);rw[dm]at h2;have h3:=cB (bY (1000000000^j)) (bY (1000000000^j));exact ab h1 (af h2 h3)
 have g3:0<(1000000000:Nat)^j:=cy (by omega);have l7:w.heap.size+1<w3.heap.size:=ab l1 e6;have k0:=(o.block _ l0).trans Q;have k1:=(o.block _ l1).trans R;have L:=F.go o;have K0:=O k0;have K1:=O k1;have Fz:=O L;have u:=O (b5.trans (o.mono b5.size));have i8:=O (fun(x:Nat)(hx:x<=1000000000^j)=>Nh (x:=x) b3 (by rw[<- H];exact hx) (by omega) hn);have j3:=O (fun(x:Nat)(hx:x<=1000000000^j)=>show(ip x).length<=599 from af (iB (k:=j+1) (cX hx (Nat.pow_lt_pow_right (by omega) (by omega)))) j8);clear k0 k1 L Q R F b5 o b3 i6 b9 e7 c2 l0 l1 e6;generalize(1000000000:Nat)^j=X at*;go_wp2_with fail
 go_loopg [] X (fun k wr=>∃x:Nat,uO wr w3 (x:Int)/\td wr w false a n c/\td wr (w+1) false none 0 0/\LG wr wr false a n c (A:Int)/\0<x/\A<(x+1)*(x+1)/\x<=X/\x<=k/\Below w w wr)
 case atStart=>exact⟨X,d7,K0,K1,Fz,g3,f0,aa _,aa _,u⟩
 case round=>
  clear K0 K1 Fz d7 u f0 g3;obtain⟨x,v4,l,m,f,b2,g7,g8,m0,g0⟩:=hrel;obtain⟨s4,a4,n4,c4,r,z⟩:=v4
  have k8:s4=false:=by rw[z.1];simp
  subst k8;obtain⟨N,x1,_,_⟩:=gQ l;obtain⟨P,y1,_,_⟩:=gQ r
  have k4:n4<=599:=by have:=mW z;rw[aB]at this;rw[this];exact j3 x g8
  have b1:=i8 x g8;have l0:=TK l;have l1:=TK m;have l4:=TK r;have g6:=KH A x b2;have g5:=HH A x h0 b2;have g1:=GZ A x b2;have Q:=O l;have R:=O m;have F:=O f;have Q4:=O r;have F4:=O z;have u:=O g0;have i9:=O g6;have i7:=O g5;have i5:=O g1;have j2:=O g7;have d0:=O b1;clear l m f r z g0 g6 g5 g1 g7 b1;go_wp2_with fail;refine(oO false false (A:Int) (x:Int) A x (aB _) (aB _) a a4 n n4 c c4 _ (by exact F) (by exact F4) b2 k4).mono ?_;rintro e w5 ⟨s5,a5,n5,c5,s6,a6,n6,c6,rfl,h5,-,c0,-,-⟩;rw[show Bd false false (A/x)=((A/x:Nat):Int)from rfl]at h5;generalize A/x=q at*;obtain⟨e1,e2⟩:=iN w5 (.cells #[s5,Z a5 n5 c5] 221) (.cells #[s6,Z a6 n6 c6] 221);have d:=iH (w:=w5) (.cells #[s5,Z a5 n5 c5] 221) (.cells #[s6,Z a6 n6 c6] 221);have E1:=O e1;have H5:=O (h5.go d);have e0:=O (c0.trans (d.mono c0.size));clear e1 e2 h5 c0 d N x1 P y1;go_upto_region 7 with fail;refine jp (fun b=>td b w5 s5 a5 n5 c5/\LG b b s5 a5 n5 c5 ((q:Nat):Int)/\Below wr wr b) ⟨E1,H5,e0⟩ ?_;clear E1 H5 e0;rintro w6 ⟨k5,h5,a1⟩;obtain⟨N,x1,_,_⟩:=gQ k5;have r:=(a1.block _ l4).trans Q4;obtain⟨P,y1,_,_⟩:=gQ r;have z:=F4.go a1;have d5:=O z;have H5:=O h5;have b6:=O a1;clear k5 h5 a1 r z;go_wp2_with fail;refine(EJ false s5 (x:Int) ((q:Nat):Int) a4 a5 n4 n5 c4 c5 _ (by exact d5) (by exact H5) (by rw[show((x:Int)+((q:Nat):Int)).natAbs=x+q by omega];exact d0)).mono ?_;rintro e w7 ⟨s7,a7,n7,c7,rfl,T,f7⟩;have H7:=O T;have b7:=O (b6.trans (f7.mono b6.size));clear T f7 b6 H5 d5 N x1 P y1;go_wp2_with fail;refine(oT 2 _ (by omega) (by omega)).mono ?_;rintro e w8 ⟨s8,a8,n8,c8,rfl,h8,c1,-⟩
  have l3:s8=false:=by rw[h8.1];rfl
  subst l3;have T:=H7.go c1;rw[show(x:Int)+((q:Nat):Int)=((x+q:Nat):Int)by omega]at T
  have l2:s7=false:=by rw[T.1];simp<;>omega
  subst l2
  have k6:n8<=599:=by have:=mW h8;rw[this];exact af (iB (k:=1) (by decide)) (by omega)
  have d6:=O T;have H8:=O h8;have b8:=O (b7.trans (c1.mono b7.size));clear T h8 c1 b7 H7;go_wp2_with fail;refine(oO false false ((x+q:Nat):Int) 2 (x+q) 2 (aB _) rfl a7 a8 n7 n8 c7 c8 _ (by exact d6) (by exact H8) (by omega) k6).mono ?_;rintro e w9 ⟨s9,a9,n9,c9,i2,e8,h6,e9,rfl,h9,-,f8,-,-⟩;rw[show Bd false false ((x+q)/2)=(((x+q)/2:Nat):Int)from rfl]at h9;obtain⟨e1,e2⟩:=iN w9 (.cells #[s9,Z a9 n9 c9] 221) (.cells #[i2,Z e8 h6 e9] 221);have d:=iH (w:=w9) (.cells #[s9,Z a9 n9 c9] 221) (.cells #[i2,Z e8 h6 e9] 221);have D:=b8.trans (f8.mono b8.size);have E1:=O e1;have H9:=O (h9.go d);have e3:=O (D.trans (d.mono D.size));clear e1 e2 h9 f8 d D d6 H8 b8;generalize(x+q)/2=y at*;go_upto_region 8 with fail;refine jp (fun b=>td b w9 s9 a9 n9 c9/\LG b b s9 a9 n9 c9 (y:Int)/\Below wr wr b) ⟨E1,H9,e3⟩ ?_;clear E1 H9 e3;rintro wa ⟨W,h9,a2⟩;obtain⟨N,x1,_,_⟩:=gQ W;have r:=(a2.block _ l4).trans Q4;obtain⟨P,y1,_,_⟩:=gQ r;have l9:=TK W;have z:=F4.go a2;have K9:=O W;have H9:=O h9;have e4:=O a2;have G4:=O z;clear W h9 a2 r z;go_wp2_with fail;refine(uy s9 false (y:Int) (x:Int) a9 a4 n9 n4 c9 c4 wa H9 G4).mono ?_;rintro e wb ⟨rfl,b0⟩;clear N x1 P y1;have t:=e4.trans (b0.mono e4.size);have W:=(b0.block _ l9).trans K9;have r:=(t.block _ l4).trans Q4;have m:=(t.block _ l1).trans R;obtain⟨N,x1,_,_⟩:=gQ W;obtain⟨P,y1,y2,y3⟩:=gQ r;obtain⟨z0,z1,z2,z3⟩:=gQ m;have i3:=O (H9.go b0);have B4:=O (F4.go t);have BJ:=O m;have d4:=O r;have o:=O t;clear t W r m b0 H9 G4 K9;by_cases l6:x<=y
  .have g2:decide (0<=oG (y:Int) (x:Int))=true:=by
    unfold oG;rw[aj (by omega)];split<;>simp
   have d2:¬oG (y:Int) (x:Int) <0:=by simpa using g2
   generalize oG (y:Int) (x:Int)=cz at*;go_wp2_with fail;have d1:=pZ (s':=false) (a':=a4) (n':=n4) (c':=c4) BJ;obtain⟨q0,q1,_,_⟩:=gQ d1;have l5:x=S:=Ng (i5 l6) j2 HS i4;refine ar (v:=.agg #[false,Z a4 n4 c4]) ?_ rfl ?_
   .simp[results,results197,go_sem,q0,q1]
   .rw[<- l5]
    exact⟨false,a4,n4,c4,rfl,re B4 BJ,nD (u.trans (o.mono u.size)) (by omega)⟩
  .have E:oG (y:Int) (x:Int)= -1:=by unfold oG;rw[aq (by omega)]
   have d2:oG (y:Int) (x:Int) <0:=by rw[E];decide
   have g2:decide (0<=oG (y:Int) (x:Int))=false:=by rw[E];rfl
   clear E;generalize oG (y:Int) (x:Int)=cz at*;go_wp2_with fail
   go_roundg y
   case measure=>omega
   case rel=>
    have V4:uO wb w3 (x:Int):=⟨_,_,_,_,d4,B4⟩;have l:=(o.block _ l0).trans Q;have f:=F.go o;exact⟨y,V4.put i3,qi (by omega) l,qi (by omega) BJ,re f d4,i7,i9,by omega,aa _,nD (u.trans (o.mono u.size)) (by omega)⟩
def St(w:World)(z:Int)(e:Ending)(w':World):Prop:=
 ∃s a n c,e=.returned (.tuple #[.agg #[.bool s,Z a n c],oZ])/\LG w' w' s a n c z/\Below w w w'
def Cf(A S:Nat)(s a n c)(w:World)(h:LG w w s a n c (A:Int))(h0:0<A)(M:S*S<=A)(q:A<(S+1)*(S+1))(X:n<=590):
 Calls prog 158 #[.agg #[s,Z a n c]] w (St w (S:Int)):=by
 have N:s=false:=by rw[h.1];simp
 subst N;obtain⟨P,Q⟩:=iN w (.cells #[false,Z a n c] 221) (.cells #[false,oN] 221);have g:=iH (w:=w) (.cells #[false,Z a n c] 221) (.cells #[false,oN] 221);have z:=O (h.go g);have m:=O g;have D:=O P;have E:=O Q;have W:=O M;have B:=O q;clear g P Q h M q;go_enter func158,ntmps158;go_upto_region 1 with fail;refine jp (fun j=>td j w false a n c/\td j (w+1) false none 0 0/\LG j j false a n c (A:Int)/\Below w w j) ⟨D,E,z,m⟩ ?_;clear D E z m;rintro w0 ⟨l,t,f,r⟩;obtain⟨y,x1,_,_⟩:=gQ l;have l0:=TK l;have l1:=TK t;have H:=O l;have K:=O t;have F:=O f;have d:=O r;clear l t f r;go_wp2_with fail;refine(rN false (A:Int) a n c w0 F).mono ?_;rintro e w1 ⟨rfl,b⟩;clear y x1;obtain⟨y,x1,_,_⟩:=gQ ((b.block _ l0).trans H);have R:=O (F.go b);have p:=O ((b.block _ l1).trans K);have o:=O (d.trans (b.mono d.size));clear b H K F d;go_wp2_with fail;refine(KI A S false a n c w1 R h0 W B X).mono ?_;rintro e w2 ⟨s2,a2,x,c2,rfl,h2,i⟩;have u:=(i.block _ (TK p)).trans p;obtain⟨z0,z1,g0,g1⟩:=gQ u;have L:=O u;have T:=O h2;have C:=O (o.trans (i.mono o.size));clear u h2 i y x1;go_wp2_with fail;have k:=pZ (s':=s2) (a':=a2) (n':=x) (c':=c2) L;obtain⟨q0,q1,_,_⟩:=gQ k;refine ar (v:=.tuple #[.agg #[s2,Z a2 x c2],oZ]) ?_ rfl ?_
 .simp[results,results158,go_sem,q0,q1]
 .exact⟨s2,a2,x,c2,rfl,re T L,nD C (by omega)⟩
structure jQ.Ok (g:jQ):Prop where
 nm:kI g.nm=true
 sz:g.nm.size<=9223372036854775807
 mir:(g.nm.toList==[77,73,82,82,79,82])=false
 lo:300000<=g.lo
 lh:g.lo<=g.hi
 hi:g.hi<=2500000
 f1:1<=g.form
 f3:g.form<=3
 co:g.In
 sel:g.form=1-> ∀i,i<6->i%2=1->1000*g.co i<g.lo*g.lo
 cau:g.form=2-> ∀i,i<6->2<i->g.co i=0
def zJ(g:jQ)(w)(E:g.Ok):
 Calls prog 150 #[.agg #[g.nm,g.form,g.c0,g.c1,g.c2,g.c3,g.c4,g.c5,g.lo,g.hi]] w (iZ w (.bool true)):=by
 have M:Nd (w.alloc (.cells #[g.nm,g.form,g.c0,g.c1,g.c2,g.c3,g.c4,g.c5,g.lo,g.hi] 168)) w g:=TL w _;have n:=(TH w w).alloc (aa _) (.cells #[g.nm,g.form,g.c0,g.c1,g.c2,g.c3,g.c4,g.c5,g.lo,g.hi] 168);have y:=O M;have m:=O n;have a:=O E;clear M n E;go_enter func150,ntmps150;go_upto_region 1 with fail;refine jp (fun N=>Nd N w g/\Below w w N) ⟨y,m⟩ ?_;clear y m;rintro w0 ⟨q,o⟩;obtain⟨z0,P,R,S,T,W,X,z7,z8,z9⟩:=ml q;have l0:=TK q;have Q:=O q;have f:=O o;clear q o;go_wp2_with fail;refine(pA g.nm w0 a.sz).mono ?_;rintro e w1 ⟨rfl,h⟩;have hn:=a.nm;have q:=(h.block _ l0).trans Q;clear z0 P R S T W X z7 z8 z9;obtain⟨z0,P,R,S,T,W,X,z7,z8,z9⟩:=ml q;have A:=O q;have v:=O (f.trans (h.mono f.size));have l:=a.mir
 have L:¬g.lo<300000:=by have:=a.lo;omega
 have K:¬g.hi<g.lo:=by have:=a.lh;omega
 have F:¬2500000<g.hi:=by have:=a.hi;omega
 have C:¬g.form<1:=by have:=a.f1;omega
 have D:¬3<g.form:=by have:=a.f3;omega
 clear q h f Q;go_upto_region 3 with fail;clear hn l L K F C D;have l1:=TK A;have a5:0<=g.lo*g.lo:=eH (by have:=a.lo;omega) (by have:=a.lo;omega);have a1:g.lo*g.lo<=2500000*2500000:=eI (by have:=a.lh;have:=a.hi;omega) (by have:=a.lh;have:=a.hi;omega) (by have:=a.lo;omega) (by omega);have a6:IntKind.i64.wrap (g.lo*g.lo)=g.lo*g.lo:=TM _ (by omega);go_wp2_with fail
 go_loopw [3,4] (fun t cv wr=>(∃k:Nat,t=.int .i64 (k:Int)/\k<=6)/\wr=w1) (fun t _ _=>6-(intOf t).toNat)
 case atStart=>exact⟨⟨0,rfl,by omega⟩,rfl⟩
 case round=>
  obtain⟨⟨k,rfl,hk⟩,rfl⟩:=hrel;by_cases hlt:k<6
  .have u:=EL A (i:=k) hlt
   have hc:=a.co k;have c:=a.sel;have b:=a.cau
   have a4:(k:Int) <6:=by omega
   have a2:¬g.co k< -1000000000000:=by omega
   have a3:¬1000000000000<g.co k:=by omega
   have a7:IntKind.i64.wrap (1000*g.co k)=1000*g.co k:=TM _ (by omega)
   have r:g.form=1->k%2=1-> ¬g.lo*g.lo<=1000*g.co k:=fun h1 h2=>by have:=c h1 k hlt h2;omega
   have p:g.form=2->2<k->g.co k=0:=fun h1 h2=>b h1 k hlt h2
   have z:=O r;have x:=O p;clear c b r p hc;generalize g.co k=ck at*;by_cases f1:g.form=1
   .have b1:(g.form==1)=true:=by simpa using f1
    have b2:(g.form==2)=false:=by rw[f1];rfl
    by_cases s:k%2=1
    .have j:(k:Int).tmod 2=1:=by rw[bu (by omega)];omega
     have a0:=z f1 s;clear f1;go_wp2_with fail
     go_roundw
     case rel=>exact⟨⟨k+1,by go_num,by omega⟩,trivial⟩
     case measure=>simp[intOf];omega
    .have j:(k:Int).tmod 2=0:=by rw[bu (by omega)];omega
     clear f1;go_wp2_with fail
     go_roundw
     case rel=>exact⟨⟨k+1,by go_num,by omega⟩,trivial⟩
     case measure=>simp[intOf];omega
   .have b1:(g.form==1)=false:=by simpa using f1
    by_cases d:g.form=2
    .have b2:(g.form==2)=true:=by simpa using d
     by_cases s:2<k
     .have j:2<(k:Int):=by omega
      have B:=x d s;clear f1 d;subst B;go_wp2_with fail
      go_roundw
      case rel=>exact⟨⟨k+1,by go_num,by omega⟩,trivial⟩
      case measure=>simp[intOf];omega
     .have j:¬2<(k:Int):=by omega
      clear f1 d;go_wp2_with fail
      go_roundw
      case rel=>exact⟨⟨k+1,by go_num,by omega⟩,trivial⟩
      case measure=>simp[intOf];omega
    .have b2:(g.form==2)=false:=by simpa using d
     clear f1 d;go_wp2_with fail
     go_roundw
     case rel=>exact⟨⟨k+1,by go_num,by omega⟩,trivial⟩
     case measure=>simp[intOf];omega
  .have H:k=6:=by omega
   subst H;go_wp2_with fail;go_ret;exact⟨rfl,v⟩
def Jt{a b c:Rat}(d:0<b)(h:a<=c*b):a/b<=c:=by
 rw[<- fS,Rat.lt_div_iff d,fS];exact h
def Ju{a b c:Rat}(d:0<b)(h:c*b<=a):c<=a/b:=by
 rw[<- fS,Rat.div_lt_iff d,fS];exact h
def Ni{r:Rat}(h:0<r):0<r.num:=by
 have:=(Rat.lt_iff 0 r).1 h;simpa using this
def QZ(L):tS L*1000000000000=((L*L:Int):Rat):=by
 unfold tS;rw[Rat.mkRat_eq_div];exact Rat.div_mul_cancel (by decide+kernel)
def Jv{L}(h1:400000<=L)(h2:L<=700000):4/25<=tS L/\tS L<=1/2:=by
 have h:=QZ L;have a:(400000:Int)*400000<=L*L:=eI h1 h1 (by omega) (by omega)
 have h3:(160000000000:Int)<=L*L:=by omega
 have c:L*L<=700000*700000:=eI h2 h2 (by omega) (by omega)
 have b:L*L<=490000000000:=by omega
 have h5:((160000000000:Int):Rat)<=((L*L:Int):Rat):=gi.2 h3;have d:((L*L:Int):Rat)<=((490000000000:Int):Rat):=gi.2 b;rw[<- h]at h5 d;simp only[ft]at h5 d;generalize tS L=w at*;clear h h1 h2 h3 b a c;constructor<;>grind
def Nj:mkRat 1 1=1:=by decide+kernel
def S8(L):kN L (-((0:Nat):Int))=1:=Nj
def Q8(L):kN L 1=tS L:=by
 show mkRat 1 1*tS L=_
 rw[Nj,Rat.one_mul]
def Su(L):kN L (-((1:Nat):Int))=1/tS L:=by
 show mkRat 1 1/tS L=_
 rw[Nj]
def Q9(L):kN L (1-((2:Nat):Int))=1/tS L:=by
 show mkRat 1 1/tS L=_
 rw[Nj]
def Nk{w:Rat}(h1:4/25<=w)(h2:w<=1/2):2<=1/w/\1/w<=25/4:=by
 have h0:0<w:=by grind
 exact⟨Ju h0 (by grind),Jt h0 (by grind)⟩
def AW:jQ:=⟨⟨#[66,75,55]⟩,2,1504600000,4200000,0,0,0,0,300000,2500000⟩
def D8:jQ:=⟨⟨#[83,70,45,49]⟩,1,1559000000,12000000,285000000,56000000,0,0,300000,2500000⟩
def Cg:jQ:=⟨⟨#[102,95,50]⟩,3,2600000000,-9000000,22000000,0,0,0,300000,2500000⟩
def np:List jQ:=[AW,D8,Cg]
def EO{L}(h1:400000<=L)(h2:L<=700000):1<=mr AW L 3/\mr AW L 3<=8/5:=by
 obtain⟨a,b⟩:=Jv h1 h2;obtain⟨c,d⟩:=Nk a b;have e:mr AW L 3=mkRat 0 1+pT AW 0*kN L (-((0:Nat):Int))+pT AW 1*kN L (-((1:Nat):Int))+pT AW 2*kN L (-((2:Nat):Int)):=rfl;rw[e,S8,Su,show mkRat 0 1=0 from by decide+kernel,show pT AW 0=7523/5000 from by decide+kernel,show pT AW 1=21/5000 from by decide+kernel,show pT AW 2=0 from by decide+kernel,eU];generalize 1/tS L=u at*;clear a b e;constructor<;>grind
def Ra{L}(h1:400000<=L)(h2:L<=700000):1<=iL AW L/\iL AW L<=4:=by
 obtain⟨a,b⟩:=EO h1 h2;have e:iL AW L=mr AW L 3*mr AW L 3:=rfl;rw[e];generalize mr AW L 3=r at*
 have h0:0<=r:=by grind
 have c:1*r<=r*r:=fF a h0;have g2:r*r<=8/5*r:=fF b h0;constructor<;>grind
def Jw{w d:Rat}(h1:4/25<=w)(h0:0<=d)(b:d<=7/125):0<=w/(w+ -d)/\w/(w+ -d)<=2:=by
 have a:0<w+ -d:=by grind
 exact⟨Ju a (by grind),Jt a (by grind)⟩
def xf(a b c:Rat):a*b/c=a*(b/c):=by
 rw[Rat.div_def,Rat.div_def,Rat.mul_assoc]
def Rb{L}(h1:400000<=L)(h2:L<=700000):1<=iL D8 L/\iL D8 L<=5:=by
 obtain⟨a,b⟩:=Jv h1 h2;have e:iL D8 L=mkRat 1 1+pT D8 0*kN L 1/(kN L 1+mkRat (-12000000) 1000000000)+pT D8 2*kN L 1/(kN L 1+mkRat (-56000000) 1000000000)+pT D8 4*kN L 1/(kN L 1+mkRat (-0) 1000000000):=rfl;rw[e,Nj,Q8,show pT D8 0=1559/1000 from by decide+kernel,show pT D8 2=285/1000 from by decide+kernel,show pT D8 4=0 from by decide+kernel,show mkRat (-12000000) 1000000000= -(12/1000)from by decide+kernel,show mkRat (-56000000) 1000000000= -(56/1000)from by decide+kernel,xf,xf,xf,eU];obtain⟨c1,c2⟩:=Jw (w:=tS L) (d:=12/1000) a (by decide+kernel) (by decide+kernel);obtain⟨c,f⟩:=Jw (w:=tS L) (d:=56/1000) a (by decide+kernel) (by decide+kernel);generalize tS L/(tS L+ -(12/1000))=u at*;generalize tS L/(tS L+ -(56/1000))=v at*;clear e a b;constructor<;>grind
def Rc{L}(h1:400000<=L)(h2:L<=700000):1<=iL Cg L/\iL Cg L<=4:=by
 obtain⟨a,b⟩:=Jv h1 h2;obtain⟨c,d⟩:=Nk a b;have e:iL Cg L=pT Cg 0+pT Cg 1*kN L 1+pT Cg 2*kN L (1-((2:Nat):Int))+pT Cg 3*kN L (1-((3:Nat):Int))+pT Cg 4*kN L (1-((4:Nat):Int))+pT Cg 5*kN L (1-((5:Nat):Int)):=rfl;rw[e,Q8,Q9,show pT Cg 0=13/5 from by decide+kernel,show pT Cg 1= -(9/1000)from by decide+kernel,show pT Cg 2=22/1000 from by decide+kernel,show pT Cg 3=0 from by decide+kernel,show pT Cg 4=0 from by decide+kernel,show pT Cg 5=0 from by decide+kernel,eU,eU,eU];generalize 1/tS L=u at*;generalize tS L=w at*;clear e;constructor<;>grind
def KJ{g}(c:g∈np){L}(h1:400000<=L)(h2:L<=700000):g.Far L:=by
 obtain⟨a,b⟩:=Jv h1 h2;intro hf i hi;simp only[np,aS,bi,cR]at c
 obtain rfl|rfl|rfl:=c
 .exact absurd hf (by decide)
 .rw[Q8]
  refine Ni ?_
  match i,hi with
  |0,_=>rw[show mkRat (-(D8.co (2*0+1))) 1000000000= -(12/1000)from by decide+kernel];grind
  |1,_=>rw[show mkRat (-(D8.co (2*1+1))) 1000000000= -(56/1000)from by decide+kernel];grind
  |2,_=>rw[show mkRat (-(D8.co (2*2+1))) 1000000000=0 from by decide+kernel];grind
 .exact absurd hf (by decide)
def zK{g:jQ}(h:∀x∈ [g.c0,g.c1,g.c2,g.c3,g.c4,g.c5],-1000000000000<=x/\x<=1000000000000):g.In:=by
 intro i
 match i with
 |0=>exact h _ (by simp[jQ.co])
 |1=>exact h _ (by simp[jQ.co])
 |2=>exact h _ (by simp[jQ.co])
 |3=>exact h _ (by simp[jQ.co])
 |4=>exact h _ (by simp[jQ.co])
 |i+5=>exact h _ (by simp[jQ.co])
def EP{g}(a:g∈np):g.Ok/\g.lo=300000/\g.hi=2500000:=by
 simp only[np,aS,bi,cR]at a
 obtain rfl|rfl|rfl:=a
 .refine⟨⟨by decide+kernel,by decide+kernel,by decide+kernel,by decide+kernel,by decide+kernel,by decide+kernel,by decide+kernel,by decide+kernel,zK (by decide+kernel),fun h=>absurd h (by decide+kernel),fun _=>by decide+kernel⟩,rfl,rfl⟩
 .refine⟨⟨by decide+kernel,by decide+kernel,by decide+kernel,by decide+kernel,by decide+kernel,by decide+kernel,by decide+kernel,by decide+kernel,zK (by decide+kernel),fun _=>by decide+kernel,fun h=>absurd h (by decide+kernel)⟩,rfl,rfl⟩
 .refine⟨⟨by decide+kernel,by decide+kernel,by decide+kernel,by decide+kernel,by decide+kernel,by decide+kernel,by decide+kernel,by decide+kernel,zK (by decide+kernel),fun h=>absurd h (by decide+kernel),fun h=>absurd h (by decide+kernel)⟩,rfl,rfl⟩
def PC(A):∃S,S*S<=A/\A<(S+1)*(S+1):=by
 induction A with
 |zero=>exact⟨0,by omega,by omega⟩
 |succ A a=>
  obtain⟨S,h1,h2⟩:=a;by_cases h:A+1<(S+1)*(S+1)
  .exact⟨S,by omega,h⟩
  .refine⟨S+1,by omega,?_⟩
   have:(S+1+1)*(S+1+1)=(S+1)*(S+1)+2*(S+1)+1:=by simp only[Nat.mul_add,dB];omega
   omega
structure Sx (g:jQ) (L:Int) (A S:Nat):Prop where
 sq:0<=(iL g L).num
 rt:g.form=2->0<=(mr g L 3).num
 fl:∃x:Nat,(iL g L*mkRat 400000000000000 1).num=(x:Int)/\x/(iL g L*mkRat 400000000000000 1).den=A
 a0:0<A
 s1:S*S<=A
 s2:A<(S+1)*(S+1)
 lo:19999999<=S
 hi:S<=80000000
def HJ{g L}(h1:1<=iL g L)(n:iL g L<=5)(k:g.form=2->0<=mr g L 3):∃A S,Sx g L A S:=by
 have h0:0<=iL g L:=by grind
 have c:iL g L*mkRat 400000000000000 1=iL g L*400000000000000:=by rw[show mkRat 400000000000000 1=400000000000000 from by decide+kernel]
 have f:((400000000000000:Int):Rat)<=iL g L*mkRat 400000000000000 1:=by rw[c,ft];grind
 have e:iL g L*mkRat 400000000000000 1<((2000000000000001:Int):Rat):=by rw[c,ft];grind
 have d:0<=iL g L*mkRat 400000000000000 1:=by rw[c];grind
 have i:0<=(iL g L*mkRat 400000000000000 1).num:=fR.2 d;have f1:=Rat.le_floor_iff.2 f;have b:=Rat.floor_lt_iff.2 e;rw[Rat.floor_def]at f1 b;obtain⟨x,l⟩:=Int.eq_ofNat_of_zero_le i;have a:(iL g L*mkRat 400000000000000 1).num=(x:Int):=l;rw[a]at f1 b;rw[<- Int.natCast_ediv]at f1 b
 have m:400000000000000<=x/(iL g L*mkRat 400000000000000 1).den:=by omega
 have g2:x/(iL g L*mkRat 400000000000000 1).den<2000000000000001:=by omega
 obtain⟨S,s1,s2⟩:=PC (x/(iL g L*mkRat 400000000000000 1).den);refine⟨_,S,fR.2 h0,fun h=>fR.2 (k h),⟨x,a,rfl⟩,by omega,s1,s2,?_,?_⟩
 .refine Nat.le_of_not_lt fun j=>?_
  have:=cB (show S+1<=19999999 by omega) (show S+1<=19999999 by omega);omega
 .refine Nat.le_of_not_lt fun j=>?_
  have:=cB (show 80000000<=S by omega) (show 80000000<=S by omega);omega
def KL{g}(d:g∈np){L}(h1:400000<=L)(h2:L<=700000):∃A S,Sx g L A S:=by
 simp only[np,aS,bi,cR]at d
 obtain rfl|rfl|rfl:=d
 .obtain⟨a,b⟩:=Ra h1 h2
  obtain⟨c,_⟩:=EO h1 h2;exact HJ a (by grind) (fun _=>by grind)
 .obtain⟨a,b⟩:=Rb h1 h2
  exact HJ a b (fun h=>absurd h (by decide+kernel))
 .obtain⟨a,b⟩:=Rc h1 h2
  exact HJ a (by grind) (fun h=>absurd h (by decide+kernel))
def SA(w:World)(r:Rat)(e:Ending)(w':World):Prop:=
 ∃s a n c b m d,e=.returned (.tuple #[.agg #[.bool s,Z a n c,false,Z b m d],oZ])/\QL w' w' s a n c b m d r/\Below w w w'
def ET(g)(L:Int)(w)(X:g.Ok)(h1:g.lo<=L)(h2:L<=g.hi)(c:g.Far L):
 Calls prog 152 #[.agg #[g.nm,g.form,g.c0,g.c1,g.c2,g.c3,g.c4,g.c5,g.lo,g.hi],L] w (SA w (iL g L)):=by
 obtain⟨i0,i1⟩:=iN w (.cells #[g.nm,g.form,g.c0,g.c1,g.c2,g.c3,g.c4,g.c5,g.lo,g.hi] 168) (.cells #[false,oN,false,oN] 243);have q:=iH (w:=w) (.cells #[g.nm,g.form,g.c0,g.c1,g.c2,g.c3,g.c4,g.c5,g.lo,g.hi] 168) (.cells #[false,oN,false,oN] 243);have P:=O i0;have Q:=O i1;have o:=O q;have k:=O X;have l:=O c;clear i0 i1 q X c;go_enter func152,ntmps152;go_upto_region 1 with fail;refine jp (fun C=>Nd C w g/\pO C (w+1) false none 0 0 false none 0 0/\Below w w C) ⟨P,Q,o⟩ ?_;clear P Q o;rintro w0 ⟨n,a,r⟩;have lg:=TK n;have l0:=TK a;obtain⟨z0,h,i,j,D,E,F,H,K,M⟩:=ml n;have T:=O n;have R:=O a;have d:=O r;clear n a r;go_wp2_with fail;refine(zJ g w0 k).mono ?_;rintro e w1 ⟨rfl,b⟩;clear z0 h i j D E F H K M;obtain⟨z0,h,i,j,D,E,F,H,K,M⟩:=ml ((b.block _ lg).trans T);have s:=O ((b.block _ l0).trans R);have p:=O (d.trans (b.mono d.size))
 have g1:¬L<g.lo:=by omega
 have g2:¬g.hi<L:=by omega
 clear b T R d;go_wp2_with fail;have a1:=k.lo;have a0:=k.hi;refine(GY g L w1 k.co (by omega) (by omega) l).mono ?_;rintro e w2 ⟨B,t,A,x,u,z,y,rfl,W,f⟩;clear z0 h i j D E F H K M;have a:=(f.block _ (TK s)).trans s;obtain⟨y0,y1,y2,y3⟩:=gL a;have e0:=gD a 0;have e1:=gD a 1;have e2:=gD a 2;have e3:=gD a 3;have S:=O a;have F6:=O W;have N:=O (p.trans (f.mono p.size));clear a W f s;go_wp2_with fail;have m:=kl (s':=B) (a':=t) (n':=A) (c':=x) (t':=false) (b':=u) (m':=z) (d':=y) S;obtain⟨z0,h,i,j⟩:=gL m;refine ar (v:=.tuple #[.agg #[B,Z t A x,false,Z u z y],oZ]) ?_ rfl ?_
 .simp[results,results152,go_sem,z0,h,i,j]
 .exact⟨B,t,A,x,u,z,y,rfl,F6.putG S,iR N (bY _)⟩
def EQ:pB jQ:=fun _ _ g cs=>cs=g.cells/\g.nm.size<=9223372036854775807
def wl:kR 10 EQ where
 len:=by rintro S w x cs ⟨rfl,_⟩;rfl
 kept:=by rintro S T w w' x cs h _ _;exact h
 one:=by rintro S w x cs ⟨rfl,_⟩ v a;unfold jQ.cells at a;simp only[aS,bi,cR]at a;obtain rfl|rfl|rfl|rfl|rfl|rfl|rfl|rfl|rfl|rfl:=a<;>rfl
def Tryz.infoGls:(prog.info? 168).map (·.size)=some 10:=by kernel_rfl
def Dj{ops a c d w}{Q:Exit->Act->World->Prop}{b o}{g:jQ}(h:w.rangeAt b o g.cells)(e:c.guard=none)(x)(i:c.op=.load 168 x)(j:d.eval x=.pointer (some ⟨b,o,none⟩))(f:wpList prog ops Q a (d.put c.dst (.agg #[g.nm,g.form,g.c0,g.c1,g.c2,g.c3,g.c4,g.c5,g.lo,g.hi])) w):wpList prog ops Q (c::a) d w:=
 wpList_load_mid e 168 x i b o j g.cells _ h underlying168 rfl Tryz.infoGls f
structure Ch (l:List jQ):Prop where
 ok:∀g∈l,g.Ok
 ne:∀(i j:Nat)(x y:jQ),l[i]? =some x->l[j]? =some y->j<i->x.nm.toList≠y.nm.toList
 len:l.length<=40
def wm(l a n c w)(h:RR EQ 10 (fun b=>b<w.heap.size) w a n c l)(s:Ch l):
 Calls prog 113 #[Z a n c] w (iZ w (.bool true)):=by
 have hn:n<=40:=by rw[<- h.1];exact s.len
 have H:=O h;have x:=O s;clear h s;go_enter func113,ntmps113;go_wp2_with fail
 go_loopw [3] (fun u wr=>∃i:Nat,i<=n/\u=.int .i64 (i:Int)/\Below w w wr) (fun u _=>n-(intOf u).toNat)
 case atStart=>exact⟨0,by omega,rfl,TH _ _⟩
 case round=>
  obtain⟨i,hi,rfl,C⟩:=hrel;have g:=O C;clear C;by_cases D:i<n
  .obtain⟨b1,off,y,cs,rfl,hlt,F,⟨rfl,K⟩,t⟩:=(H.go wl g).at D
   have m:=t 0 _ rfl;rw[bE]at m;have R:=O t;have B:=O F;have S:=O m;clear t F m K
   go_wp2_with(first
    |(refine Dj R rfl (.tmp 13) rfl rfl ?_)
    |(refine(zJ y _ (x.ok y (aL B))).mono ?_;rintro e w2 ⟨rfl,o⟩;have A:=O o;clear o))
   obtain⟨k,rfl⟩:∃k:World,k=wr:=⟨_,rfl⟩
   go_loopw [4] (fun v W=>∃j:Nat,j<=i/\v=.int .i64 (j:Int)/\Below k k W) (fun v _=>i-(intOf v).toNat)
   case atStart=>exact⟨0,by omega,rfl,A⟩
   case round=>
    obtain⟨j,hj,rfl,f⟩:=hrel;have m:=(f.cell (p:=⟨b1,off+i*10,none⟩) hlt).trans S;have d:=O f;have P:b1<wr.heap.size:=ab hlt f.size;clear f;by_cases E:j<i
    .obtain⟨b2,o2,z,X,T,N,L,⟨rfl,M⟩,r⟩:=(H.go wl (I g d)).at (i:=j) (by omega)
     cases T;have z0:=r 0 _ rfl;rw[bE]at z0;have q:=x.ne i j y z B L E
     have Q:(z.nm.toList==y.nm.toList)=false:=by rw[ak];exact fun e=>q e.symm
     clear r L M q;go_wp2_with fail
     go_quiet (fail)
     go_wp2_with fail
     go_roundw
     case rel=>exact⟨j+1,by omega,by go_num,by first|exact d|exact gV d _⟩
     case measure=>simp[intOf];omega
    .obtain rfl:j=i:=by omega
     go_wp2
     go_roundw
     case rel=>exact⟨j+1,by omega,by go_num,I g d⟩
     case measure=>simp[intOf];omega
  .obtain rfl:i=n:=by omega
   have hd:decide ((i:Int)<=40)=true:=aP (by omega);go_wp2;go_ret;exact⟨by simp<;>omega,g⟩
def tV(z:Int):∃y,y=z:=⟨z,rfl⟩
def KP{g}(a:g.In){L}(h:0<L)(h2:L<=2500000)(hf:g.Far L):Sz 91 (iL g L):=by
 unfold iL;split
 .exact((uB a h h2 3 (by omega)).mul (uB a h h2 3 (by omega))).mono (by omega)
 .split
  .rename_i e1;exact(Di a h h2 (hf e1) 3 (by omega)).mono (by omega)
  .exact(GX a h h2 6 (by omega)).mono (by omega)
def HZ(g L w)(hg:g.Ok)(h1:g.lo<=L)(h2:L<=g.hi)(b9:g.Far L)(A S)(hi:Sx g L A S):
 Calls prog 116 #[.agg #[g.nm,g.form,g.c0,g.c1,g.c2,g.c3,g.c4,g.c5,g.lo,g.hi],L] w (iZ w (.tuple #[.int .i64 (((S+1)/2:Nat):Int),oZ])):=by
 have hq:Nd (w.alloc (.cells #[g.nm,g.form,g.c0,g.c1,g.c2,g.c3,g.c4,g.c5,g.lo,g.hi] 168)) w g:=TL w _;have s:=(TH w w).alloc (aa _) (.cells #[g.nm,g.form,g.c0,g.c1,g.c2,g.c3,g.c4,g.c5,g.lo,g.hi] 168)
 have i1:0<L:=by have:=hg.lo;omega
 have i2:L<=2500000:=by have:=hg.hi;omega
 have g0:=KP hg.co i1 i2 b9;have i7:=uB hg.co i1 i2 3 (by omega);have Hq:=O hq;have d5:=O s;have HG:=O hg;have j3:=O b9;have F:=O hi;clear hq s hg b9 hi;go_enter func116,ntmps116;go_upto_region 1 with fail;refine jp (fun B=>Nd B w g/\Below w w B) ⟨Hq,d5⟩ ?_;clear Hq d5;rintro w0 ⟨q,j8⟩;obtain⟨z0,z1,z2,z3,z4,z5,z6,z7,z8,z9⟩:=ml q;have l0:=TK q;have Q:=O q;have h0:=O j8;clear q j8;go_wp2_with fail;refine(ET g L w0 HG h1 h2 j3).mono ?_;rintro e w1 ⟨s1,a1,m1,c1,b1,k1,d1,rfl,j9,i5⟩;clear z0 z1 z2 z3 z4 z5 z6 z7 z8 z9;have V6:=kG.new j9;have s:=(TH w1 w1).alloc (aa _) (.cells #[s1,Z a1 m1 c1,false,Z b1 k1 d1] 243);have j5:=O V6;have d5:=O (i5.trans (s.mono i5.size));clear j9 V6 s i5;go_upto_region 2 with fail;refine jp (fun B=>kG B w1 (iL g L)/\Below w0 w0 B) ⟨j5,d5⟩ ?_;clear j5 d5;rintro w2 ⟨v6,i6⟩;generalize w1.heap.size=g6 at*;have q:=(i6.block _ l0).trans Q;obtain⟨s6,a6,m6,c6,b6,k6,d6,P,f6⟩:=v6;obtain⟨j,x1,x2,x3⟩:=gL P;have l6:=TK P;have Q6:=O P;have F6:=O f6;have h3:=O (h0.trans (i6.mono h0.size));have Q2:=O q;clear P f6 i6 q Q h0;go_wp2_with fail;refine(Cd (iL g L) 91 s6 a6 b6 m6 k6 c6 d6 w2 F6 g0 (by omega)).mono ?_;rintro e w3 ⟨rfl,e8⟩
 have l9:¬oG (iL g L).num 0<0:=by
  have:=F.sq;unfold oG;rw[aj (by omega)];split<;>simp
 generalize oG (iL g L).num 0=cz at*;clear j x1 x2 x3;have q:=(e8.block _ (TK Q2)).trans Q2;obtain⟨z0,z1,z2,z3,z4,z5,z6,z7,z8,z9⟩:=ml q;have P:=(e8.block _ l6).trans Q6;obtain⟨j,x1,x2,x3⟩:=gL P;have i:=TK P;have f6:=F6.go e8;have G6:=O f6;have n:=O (h3.trans (e8.mono h3.size));have e4:=O P;have g2:=TK q;have k0:=O q;clear q P f6 e8 F6 Q6 Q2 h3 l6 l0;by_cases e2:g.form=2
 .have f2:(g.form==2)=true:=by simpa using e2
  have k2:=F.rt e2;have C:=Cc g L w3 HG.co i1 i2;generalize mr g L 3=rr at C i7 k2;rw[e2]at C;have b5:=O C;clear C;go_wp2_with fail;refine b5.mono ?_;rintro e l5 ⟨l4,k3,l3,k5,k4,l2,k9,rfl,j6,D⟩;have j4:=O j6;have d:=O D;clear j6 D;go_wp2_with fail;refine(Cd rr 37 l4 k3 k4 l3 l2 k5 k9 l5 j4 (i7.mono (by omega)) (by omega)).mono ?_;rintro e l7 ⟨rfl,E⟩
  have l8:¬oG rr.num 0<0:=by
   unfold oG;rw[aj (by omega)];split<;>simp
  generalize oG rr.num 0=cz2 at*;have f:=d.trans (E.mono d.size);have P:=(f.block _ i).trans e4;have q:=(f.block _ g2).trans k0;have j7:=G6.go f;have g7:=n.trans (f.mono n.size);clear k2 i7 b5 j x1 x2 x3 z0 z1 z2 z3 z4 z5 z6 z7 z8 z9 j4 d E f e2 g2 i e4 G6 n k0;obtain⟨z0,z1,z2,z3,z4,z5,z6,z7,z8,z9⟩:=ml q;obtain⟨j,x1,x2,x3⟩:=gL P;have i:=TK P;have g2:=TK q;have G6:=O j7;have n:=O g7;have e4:=O P;clear q P j7 g7;obtain⟨w3,rfl⟩:∃w3:World,w3=l7:=⟨_,rfl⟩;go_upto_region 6 with fail;refine ic 8 [6] [(7,8,.cells #[false,oN] 221)] [(0,true),(1,false),(2,false),(3,false),(4,true),(5,true),(6,true)] (by kernel_rfl) (by kernel_rfl) ⟨by simp,by simp,by(simp only[ct];exact⟨⟨by omega,_,rfl,rfl,rfl,fun _ _=>rfl⟩,fun _ h=>by cases h⟩)⟩ (fun _ _ _ _ _ h=>h) (fun _ _ o _ _ h=>by cases o<;>exact h) ?_
  iterate 1
   refine gZ (v:=?_) ?_ ?_;rotate_left
   .intro y hy
    have y0:=(hy.cell (p:=J g6) i).trans j;have y1:=(hy.cell (p:=⟨g6,1,none⟩) i).trans x1;have y2:=(hy.cell (p:=⟨g6,2,none⟩) i).trans x2;have y3:=(hy.cell (p:=⟨g6,3,none⟩) i).trans x3;go_simp;rfl
   try simp only[V]
  clear j x1 x2 x3 z0 z1 z2 z3 z4 z5 z6 z7 z8 z9;refine iK (fun xa b4 K r=>?_);go_simp;refine(pQ 400000000000000 1 xa (by omega) (by omega) (by omega) (by omega)).mono ?_;rintro e wa ⟨s7,a7,m7,c7,b7,k7,d7,rfl,f7,D⟩;refine r _ _ D ?_;clear r K;(try simp only[V]);have c:=(gJ (k:=1) b4).trans (D.mono (gJ (k:=1) b4).size);have F7:=O f7;have d:=O c;clear f7 c D b4;refine iK (fun xb t K r=>?_);go_simp;refine(nM (iL g L) (mkRat 400000000000000 1) 91 2 s6 s7 a6 b6 a7 b7 m6 k6 c6 d6 m7 k7 c7 d7 xb ((G6.go d).go t) (F7.go t) g0 (Sz.mk (by omega) (by decide) (by decide)) (by omega)).mono ?_;rintro e wb ⟨s8,a8,m8,c8,b8,k8,d8,rfl,f8,E⟩;refine r _ _ E ?_;clear r K;(try simp only[V]);have z:=t.trans (E.mono t.size);have c:=d.trans (z.mono d.size);have G8:=O f8;have a3:=O c;clear f8 c z E t F7 d;obtain⟨x,hx,g1⟩:=F.fl;have M:Sz 93 (iL g L*mkRat 400000000000000 1):=(g0.mul (Sz.mk (k:=2) (by omega) (by decide) (by decide))).mono (by omega);generalize iL g L*mkRat 400000000000000 1=R at*;refine iK (fun xc N K r=>?_);go_simp;refine(Ce R 93 x s8 a8 b8 m8 k8 c8 d8 xc (G8.go N) M (by omega) hx).mono ?_;rintro e wc ⟨s9,a9,m9,c9,rfl,T,f,-⟩;refine r _ _ f ?_;clear r K;(try simp only[V]);rw[g1]at T;have z:=N.trans (f.mono N.size);have c:=a3.trans (z.mono a3.size);have G9:=O T;have a4:=O c;clear T c z f N G8 a3
  have l1:(ip A).length<=93:=by
   refine iB (cX ?_ M.1);rw[hx,<- g1,aB];exact dp _ _
  iterate 2
   refine gZ (v:=?_) ?_ ?_;rotate_left
   .intro y hy
    skip;go_simp;rfl
   try simp only[V]
  iterate 1
   refine iy (v:=?_) ?_ ?_;rotate_left
   .intro y
    go_simp;rfl
   try simp only[V]
  refine nV (l:=[_,_]) rfl (fun W w4 hC b2 f3=>?_);(try simp only[V]);have f5:w3.heap.size<=W:=hC.1.1.1;have f4:=a4.trans (b2.mono a4.size);have T:=G9.go b2;have hz:td w4 W false none 0 0:=f3;have V8:uO ((w4.setCell (J W) (.bool s9)).setCell ⟨W,1,none⟩ (.slice a9 m9 c9)) W (A:Int):=⟨_,_,_,_,pZ hz,re T hz⟩;obtain⟨j,x1,e0,e1⟩:=gQ hz;have H:=n.trans (f4.mono n.size);have d4:=O V8;have e3:=O (nD (u:=.bool s9) (v:=.slice a9 m9 c9) H (af n.size f5));clear V8 f4 H hz T f5 f3 b2 hC G9 a4 n G6 e4 i g2;go_upto_region 7 with fail;refine jp (fun B=>uO B W (A:Int)/\Below w w B) ⟨d4,e3⟩ ?_;clear e0 e1 j x1 d4 e3;rintro w5 ⟨v8,e9⟩;obtain⟨j0,h5,g3,h8,g4,a5⟩:=v8
  have d0:g3<=590:=by have:=mW a5;rw[aB]at this;omega
  obtain⟨j,x1,_,_⟩:=gQ g4;have d2:=O a5;have X:=O e9;clear a5 e9 g4;go_wp2_with fail;refine(Cf A S j0 h5 g3 h8 w5 d2 F.a0 F.s1 F.s2 d0).mono ?_;rintro e w6 ⟨j1,h6,i8,h9,rfl,e6,b3⟩;have s:=(TH w6 w6).alloc (aa _) (.cells #[j1,Z h6 i8 h9] 221);have e5:=uO.new e6;have HV:=O e5;have d9:=O (X.trans ((b3.trans (s.mono b3.size)).mono X.size));clear e5 s e6 b3 j x1 d2 X;go_upto_region 8 with fail;refine jp (fun B=>uO B w6 (S:Int)/\Below w w B) ⟨HV,d9⟩ ?_;clear HV d9;rintro w7 ⟨v8,f0⟩;obtain⟨j2,h7,i9,i0,g5,b0⟩:=v8;obtain⟨j,x1,_,_⟩:=gQ g5;obtain⟨b,hZ⟩:=tV (S:Int);rw[<- hZ]at b0;have d3:=O b0;have a2:=O f0;clear b0 f0 g5;go_wp2_with fail;refine(zM j2 b h7 i9 i0 w7 d3).mono ?_;rintro e w8 ⟨rfl,f1⟩
  have i4:(19999999:Int)<=b:=by have:=F.lo;omega
  have i3:b<=80000000:=by have:=F.hi;omega
  have m:rP b=true:=by unfold rP;exact aP (by omega)
  try rw[aq m,aq m]
  have h4:=O (a2.trans (f1.mono a2.size));clear f1 a2 d3 j x1;clear m;obtain⟨a,hY⟩:=tV ((b+1)/2)
  have r1:¬(80000001:Int) <b:=by omega
  have r2:IntKind.i64.wrap (b+1)=b+1:=TM _ (by omega)
  have r3:(b+1).tdiv 2=a:=by rw[hY];exact bL (by omega)
  have r4:a<=40000000:=by omega
  have r5:10000000<=a:=by omega
  have e7:a=(((S+1)/2:Nat):Int):=by omega
  have g9:=O e7;clear e7;clear i4 i3 hY hZ;have r6:IntKind.i64.wrap a=a:=TM _ (by omega)
  have r7:¬a<10000000:=by omega
  have r8:¬40000000<a:=by omega
  clear r4 r5;go_wp2_with fail;refine ar (v:=.tuple #[a,oZ]) ?_ rfl ⟨by rw[g9],h4⟩;simp[results,results116,go_sem]
 .have f2:(g.form==2)=false:=by simpa using e2
  clear e2;go_upto_region 6 with fail;refine ic 8 [6] [(7,8,.cells #[false,oN] 221)] [(0,true),(1,false),(2,false),(3,false),(4,true),(5,true),(6,true)] (by kernel_rfl) (by kernel_rfl) ⟨by simp,by simp,by(simp only[ct];exact⟨⟨by omega,_,rfl,rfl,rfl,fun _ _=>rfl⟩,fun _ h=>by cases h⟩)⟩ (fun _ _ _ _ _ h=>h) (fun _ _ o _ _ h=>by cases o<;>exact h) ?_
  iterate 1
   refine gZ (v:=?_) ?_ ?_;rotate_left
   .intro y hy
    have y0:=(hy.cell (p:=J g6) i).trans j;have y1:=(hy.cell (p:=⟨g6,1,none⟩) i).trans x1;have y2:=(hy.cell (p:=⟨g6,2,none⟩) i).trans x2;have y3:=(hy.cell (p:=⟨g6,3,none⟩) i).trans x3;go_simp;rfl
   try simp only[V]
  clear j x1 x2 x3 z0 z1 z2 z3 z4 z5 z6 z7 z8 z9;refine iK (fun xa b4 K r=>?_);go_simp;refine(pQ 400000000000000 1 xa (by omega) (by omega) (by omega) (by omega)).mono ?_;rintro e wa ⟨s7,a7,m7,c7,b7,k7,d7,rfl,f7,D⟩;refine r _ _ D ?_;clear r K;(try simp only[V]);have c:=(gJ (k:=1) b4).trans (D.mono (gJ (k:=1) b4).size);have F7:=O f7;have d:=O c;clear f7 c D b4;refine iK (fun xb t K r=>?_);go_simp;refine(nM (iL g L) (mkRat 400000000000000 1) 91 2 s6 s7 a6 b6 a7 b7 m6 k6 c6 d6 m7 k7 c7 d7 xb ((G6.go d).go t) (F7.go t) g0 (Sz.mk (by omega) (by decide) (by decide)) (by omega)).mono ?_;rintro e wb ⟨s8,a8,m8,c8,b8,k8,d8,rfl,f8,E⟩;refine r _ _ E ?_;clear r K;(try simp only[V]);have z:=t.trans (E.mono t.size);have c:=d.trans (z.mono d.size);have G8:=O f8;have a3:=O c;clear f8 c z E t F7 d;obtain⟨x,hx,g1⟩:=F.fl;have M:Sz 93 (iL g L*mkRat 400000000000000 1):=(g0.mul (Sz.mk (k:=2) (by omega) (by decide) (by decide))).mono (by omega);generalize iL g L*mkRat 400000000000000 1=R at*;refine iK (fun xc N K r=>?_);go_simp;refine(Ce R 93 x s8 a8 b8 m8 k8 c8 d8 xc (G8.go N) M (by omega) hx).mono ?_;rintro e wc ⟨s9,a9,m9,c9,rfl,T,f,-⟩;refine r _ _ f ?_;clear r K;(try simp only[V]);rw[g1]at T;have z:=N.trans (f.mono N.size);have c:=a3.trans (z.mono a3.size);have G9:=O T;have a4:=O c;clear T c z f N G8 a3
  have l1:(ip A).length<=93:=by
   refine iB (cX ?_ M.1);rw[hx,<- g1,aB];exact dp _ _
  iterate 2
   refine gZ (v:=?_) ?_ ?_;rotate_left
   .intro y hy
    skip;go_simp;rfl
   try simp only[V]
  iterate 1
   refine iy (v:=?_) ?_ ?_;rotate_left
   .intro y
    go_simp;rfl
   try simp only[V]
  refine nV (l:=[_,_]) rfl (fun W w4 hC b2 f3=>?_);(try simp only[V]);have f5:w3.heap.size<=W:=hC.1.1.1;have f4:=a4.trans (b2.mono a4.size);have T:=G9.go b2;have hz:td w4 W false none 0 0:=f3;have V8:uO ((w4.setCell (J W) (.bool s9)).setCell ⟨W,1,none⟩ (.slice a9 m9 c9)) W (A:Int):=⟨_,_,_,_,pZ hz,re T hz⟩;obtain⟨j,x1,e0,e1⟩:=gQ hz;have H:=n.trans (f4.mono n.size);have d4:=O V8;have e3:=O (nD (u:=.bool s9) (v:=.slice a9 m9 c9) H (af n.size f5));clear V8 f4 H hz T f5 f3 b2 hC G9 a4 n G6 e4 i g2;go_upto_region 7 with fail;refine jp (fun B=>uO B W (A:Int)/\Below w w B) ⟨d4,e3⟩ ?_;clear e0 e1 j x1 d4 e3;rintro w5 ⟨v8,e9⟩;obtain⟨j0,h5,g3,h8,g4,a5⟩:=v8
  have d0:g3<=590:=by have:=mW a5;rw[aB]at this;omega
  obtain⟨j,x1,_,_⟩:=gQ g4;have d2:=O a5;have X:=O e9;clear a5 e9 g4;go_wp2_with fail;refine(Cf A S j0 h5 g3 h8 w5 d2 F.a0 F.s1 F.s2 d0).mono ?_;rintro e w6 ⟨j1,h6,i8,h9,rfl,e6,b3⟩;have s:=(TH w6 w6).alloc (aa _) (.cells #[j1,Z h6 i8 h9] 221);have e5:=uO.new e6;have HV:=O e5;have d9:=O (X.trans ((b3.trans (s.mono b3.size)).mono X.size));clear e5 s e6 b3 j x1 d2 X;go_upto_region 8 with fail;refine jp (fun B=>uO B w6 (S:Int)/\Below w w B) ⟨HV,d9⟩ ?_;clear HV d9;rintro w7 ⟨v8,f0⟩;obtain⟨j2,h7,i9,i0,g5,b0⟩:=v8;obtain⟨j,x1,_,_⟩:=gQ g5;obtain⟨b,hZ⟩:=tV (S:Int);rw[<- hZ]at b0;have d3:=O b0;have a2:=O f0;clear b0 f0 g5;go_wp2_with fail;refine(zM j2 b h7 i9 i0 w7 d3).mono ?_;rintro e w8 ⟨rfl,f1⟩
  have i4:(19999999:Int)<=b:=by have:=F.lo;omega
  have i3:b<=80000000:=by have:=F.hi;omega
  have m:rP b=true:=by unfold rP;exact aP (by omega)
  try rw[aq m,aq m]
  have h4:=O (a2.trans (f1.mono a2.size));clear f1 a2 d3 j x1;clear m;obtain⟨a,hY⟩:=tV ((b+1)/2)
  have r1:¬(80000001:Int) <b:=by omega
  have r2:IntKind.i64.wrap (b+1)=b+1:=TM _ (by omega)
  have r3:(b+1).tdiv 2=a:=by rw[hY];exact bL (by omega)
  have r4:a<=40000000:=by omega
  have r5:10000000<=a:=by omega
  have e7:a=(((S+1)/2:Nat):Int):=by omega
  have g9:=O e7;clear e7;clear i4 i3 hY hZ;have r6:IntKind.i64.wrap a=a:=TM _ (by omega)
  have r7:¬a<10000000:=by omega
  have r8:¬40000000<a:=by omega
  clear r4 r5;go_wp2_with fail;refine ar (v:=.tuple #[a,oZ]) ?_ rfl ⟨by rw[g9],h4⟩;simp[results,results116,go_sem]
