import Derived.Test.YtgohdcccfkjooaaGreatDoorQAJ
namespace Go.Proofs.YtgohdcccfkjooaaGreatDoor
set_option linter.all false
set_option maxRecDepth 100000
set_option maxHeartbeats 1600000
open Go.Proofs.Tryz Go.RowKit
def QU(w:World)(g h j:Obj)(xs ys:List Int)(e d f:Value)(wr:World):Prop:=
 ∃(i:Nat)(a:Int)(b:Option Addr)(c:Nat)(zs:List Int),e=.slice b zs.length c/\d=.int .i64 a/\f=.int .i64 (i:Int)/\Py xs ys zs i a/\
  i<=xs.length/\wr.ownsRow (w+3) 3 1 (.slice b zs.length c) zs.length (zs.map (Value.int .i64))/\
  wr.heap[w.heap.size]? =some g/\wr.heap[w.heap.size+1]? =some h/\wr.heap[w.heap.size+2]? =some j/\Below w w wr/\w.heap.size+3<=wr.heap.size
def zG(s x y a b n m c d)(w:World)(N:LG w w s a n c x)(P:LG w w s b m d y)(g8:n≠0)(g7:m≠0)(f0:y.natAbs<=x.natAbs):
 Calls prog 232 #[.agg #[s,Z a n c],.agg #[s,Z b m d]] w (tb w (x-y)):=by
 have g0:((n:Int)==0)=false:=by simp;omega
 have g1:((m:Int)==0)=false:=by simp;omega
 have hn:=N.2.2;have hm:=P.2.2
 have e9:m<=n:=by rw[N.2.1.len,P.2.1.len];exact iM f0
 have c4:decide (x.natAbs<y.natAbs)=false:=aw (by omega);have K:=lW w (.cells #[s,Z a n c] 221) (.cells #[s,Z b m d] 221) (.cells #[false,oN] 221);obtain⟨i1,i2,i3⟩:=jh w (.cells #[s,Z a n c] 221) (.cells #[s,Z b m d] 221) (.cells #[false,oN] 221);have c6:s=decide (x<0)/\s=decide (y<0):=⟨N.1,P.1⟩;have e0:=O c6;have A:=O N.2.1;have B:=O P.2.1;have d8:=O c4;have I1:=O i1;have I2:=O i2;have I3:=O i3;have r:=O K;have l:=N.2.1.len;have C:=P.2.1.len;have F:=O l;have H:=O C;clear N P c6 c4 i1 i2 i3 K l C
 go_enter func232,ntmps232
 go_wp2_with fail
 refine(tP x.natAbs y.natAbs a b n m c d _ (by exact A.go r) (by exact B.go r) (by omega)).mono ?_;rintro e wq ⟨he,kq,rfl⟩;rw[d8]at he;subst he
 go_upto_region 9 with fail
 refine jp (fun wx=>wx.heap[w.heap.size]? =some (.cells #[s,Z a n c] 221 (0,0))/\wx.heap[w.heap.size+1]? =some (.cells #[s,Z b m d] 221 (0,0))/\wx.heap[w.heap.size+2]? =some (.cells #[false,oN] 221 (0,0))/\Below w w wx) ⟨I1,I2,I3,gV r kq⟩ ?_;clear I1 I2 I3 r;rintro w0 ⟨j1,j2,j3,b7⟩;have g3:=TK j3;have J1:=O j1;have J2:=O j2;have J3:=O j3;have d2:=O b7;have c0:=iU x.natAbs;have c1:=iU y.natAbs;have c9:=iY x.natAbs;have d0:=iY y.natAbs;have c7:=A.out;have c8:=B.out;have l:=F.out;have C:=H.out
 have L:(ip x.natAbs).length<=600:=by omega
 clear j1 j2 j3 b7 A B F H;have b9:(ip (x.natAbs-y.natAbs)).length<=600:=af (iM (Nat.sub_le _ _)) L;generalize ip x.natAbs=xs at*;generalize ip y.natAbs=ys at*;have E:=O l;have d9:=O C;have T:=O c0;have W:=O c1;have b2:=O c9;have b3:=O d0;have A:=O c7;have B:=O c8;have d5:=O b9;clear l C c0 c1 c9 d0 c7 c8 L b9
 go_wp2_with fail
 go_loopw [5,6,7] (fun dv cv iv wr=>QU w (.cells #[s,Z a n c] 221 (0,0)) (.cells #[s,Z b m d] 221 (0,0)) (.cells #[false,oN] 221 (0,0)) xs ys dv cv iv wr) (fun _ _ iv _=>n-(intOf iv).toNat)
 case atStart=>exact⟨0,0,none,0,[],rfl,rfl,rfl,⟨rfl,mv.nil,by simp[val],by omega,by omega⟩,aA _,World.ownsRow_nil _ _ _ _,J1,J2,J3,d2,by omega⟩
 case round=>
  obtain⟨i,D,va,vc,zs,rfl,rfl,rfl,z,hi,M,a2,a3,a4,u,q⟩:=hrel;obtain⟨q1,q2,f1,f2⟩:=gQ a2;obtain⟨q3,q4,f3,f4⟩:=gQ a3;obtain⟨q5,q6,f5,f6⟩:=gQ a4;have b6:=A.go u;have b8:=B.go u;have f7:=z.2.2.2.1;have f8:=z.2.2.2.2;have b4:=O z.1
  have g6:i<=n:=by rw[E];exact hi
  have d1:=O b6;have d4:=O b8;have HD:=O z;have g:=O M;have a9:=O a2;have b0:=O a3;have b1:=O a4;clear b6 b8 z M a2 a3 a4 f1 f2 f3 f4 hi
  by_cases hlt:i<n
  .obtain⟨ba,oa,rfl,e7,ca⟩:=d1.at (by omega)
   have g5:=ca i hlt;have a7:=e7;clear ca;have f9:=T.all i;have g2:=W.all i;have R:=O (HD.less T W);have S:=O (HD.more T W);generalize hxi:xs.getD i 0=xi at*;generalize hyi:ys.getD i 0=yi at*;have e6:=O hyi;clear hxi hyi
   go_wp2_with fail
   refine gS 12 [(0,true),(1,true),(2,true),(3,true),(4,true),(5,true),(6,true),(7,true),(10,true),(8,false),(9,true),(11,true)] (by kernel_rfl) (by kernel_rfl) ?_
   iterate 9
    refine gU (v:=?_) rfl (fun _ _ _ h=>h) (by rfl) ?_ ?_;rotate_left
    .intro y hy
     have z2:=(hy.cell (p:=⟨w.heap.size,1,none⟩) (by show w.heap.size<wr.heap.size;omega)).trans q2;have z4:=(hy.cell (p:=⟨w.heap.size+1,1,none⟩) (by show w.heap.size+1<wr.heap.size;omega)).trans q4;have z5:=(hy.cell (p:=⟨ba,oa+i,none⟩) a7).trans g5;go_simp
     with_reducible rfl
    try simp only[V]
   refine gP rfl rfl (fun KK b5=>?_);go_simp;refine(ux ys b m d i yi _ (by exact d4) (by omega) (by omega) e6).mono ?_;rintro e w4 ⟨rfl,rfl⟩;refine b5 _ _ (TH _ _) ?_;clear b5 KK
   try simp only[V]
   iterate 2
    refine gU (v:=?_) rfl (fun _ _ _ h=>h) (by rfl) ?_ ?_;rotate_left
    .intro y hy
     skip;go_simp
     with_reducible rfl
    try simp only[V]
   refine iu rfl ?_
   have g4:zs.length<=601:=by have:=b4.out;omega
   by_cases a8:xi-yi-D<0
   .have c5:¬0<=xi-yi-D:=by omega
    have Q:=O (R a8);clear R S q1 q2 q3 q4 q5 q6 f5 f6
    go_wp2_with(refine ju rfl (.tmp 61) (.tmp 63) 162 rfl underlying162 (w+3) _ _ zs rfl (g.alloc _) _ _ 1 1 [_] rfl (SL.one wr.drew _ _) (by simp) (by omega) (by simp;omega) ?_)
    intro v' w1 j k;obtain⟨a5,a6,rfl⟩:=kx j;have f:(wr.alloc (.cells #[.int .i64 (xi-yi-D+1000000000)] 3)).grownBy w1 (Value.slice va zs.length vc).ownBlock:=pY k;have e1:=(jI (base:=w.heap.size+3) g f (b:=w.heap.size) (by omega) q).trans a9;have e2:=(jI (base:=w.heap.size+3) g f (b:=w.heap.size+1) (by omega) q).trans b0;have e5:=(jI (base:=w.heap.size+3) g f (b:=w.heap.size+2) (by omega) q).trans b1;have e3:=jF u g f (by omega) q;have e4:=f.size;have X:=O e1;have a0:=O e2;have a1:=O e5;have o:=O j;clear e1 e2 e5 j k f;go_wp2
    go_roundw
    case rel=>
     refine⟨i+1,1,a5,a6,zs++[xi-yi-D+1000000000],by simp,rfl,by go_num,Q,?_,?_,X,a0,a1,e3,?_⟩
     .rw[<- E];omega
     .simpa using o.out
     .simp at e4⊢;omega
    case measure=>simp[intOf];omega
   .have c5:0<=xi-yi-D:=by omega
    have Q:=O (S c5);clear R S q1 q2 q3 q4 q5 q6 f5 f6
    go_wp2_with(refine ju rfl (.tmp 61) (.tmp 63) 162 rfl underlying162 (w+3) _ _ zs rfl (g.alloc _) _ _ 1 1 [_] rfl (SL.one wr.drew _ _) (by simp) (by omega) (by simp;omega) ?_)
    intro v' w1 j k;obtain⟨a5,a6,rfl⟩:=kx j;have f:(wr.alloc (.cells #[.int .i64 (xi-yi-D)] 3)).grownBy w1 (Value.slice va zs.length vc).ownBlock:=pY k;have e1:=(jI (base:=w.heap.size+3) g f (b:=w.heap.size) (by omega) q).trans a9;have e2:=(jI (base:=w.heap.size+3) g f (b:=w.heap.size+1) (by omega) q).trans b0;have e5:=(jI (base:=w.heap.size+3) g f (b:=w.heap.size+2) (by omega) q).trans b1;have e3:=jF u g f (by omega) q;have e4:=f.size;have X:=O e1;have a0:=O e2;have a1:=O e5;have o:=O j;clear e1 e2 e5 j k f;go_wp2
    go_roundw
    case rel=>
     refine⟨i+1,0,a5,a6,zs++[xi-yi-D],by simp,rfl,by go_num,Q,?_,?_,X,a0,a1,e3,?_⟩
     .rw[<- E];omega
     .simpa using o.out
     .simp at e4⊢;omega
    case measure=>simp[intOf];omega
  .have e8:i=n:=by omega
   subst e8;have z:=HD.out;have l:=E.out;rw[l]at z;have hv:=z.last (by rw[<- d9,<- l];exact e9) (by rw[b2,b3];omega);rw[b2,b3]at hv
   have hz:x-y=if s then -val zs else val zs:=by
    obtain⟨s1,s2⟩:=e0;rw[hv];cases s
    .have h1:¬x<0:=by simpa using s1
     have h2:¬y<0:=by simpa using s2
     simp;omega
    .have h1:x<0:=by simpa using s1
     have h2:y<0:=by simpa using s2
     simp;omega
   have c2:(ip (val zs).toNat).length<=600:=by
    have e:(val zs).toNat=x.natAbs-y.natAbs:=by rw[hv];omega
    rw[e];exact d5
   have Hz:=O hz;have d6:=O c2;clear z l hv hz c2
   go_wp2_with fail
   refine(nl s zs (x-y) _ _ _ _ (by exact ur g) HD.2.1 (by have:=b4.out;omega) d6 Hz).mono ?_;rintro e w1 ⟨s',a',n',c',rfl,c3,t,hf⟩;have k5:=(t.cell (p:=J (w+2)) (by show w.heap.size+2<wr.heap.size;omega)).trans q5;have k6:=(t.cell (p:=⟨w.heap.size+2,1,none⟩) (by show w.heap.size+2<wr.heap.size;omega)).trans q6;have k7:=(t.frozen (p:=J (w+2)) (by show w.heap.size+2<wr.heap.size;omega)).trans f5;have k8:=(t.frozen (p:=⟨w.heap.size+2,1,none⟩) (by show w.heap.size+2<wr.heap.size;omega)).trans f6;have d7:=O c3;have Hf:=O hf;have d3:=O t;clear c3 hf t
   go_wp2_with fail
   refine ar (v:=.agg #[s',Z a' n' c']) ?_ rfl ?_
   .simp[results,results232,go_sem,k5,k6]
   .exact pF d7 (u.trans (d3.mono u.size)) Hf (w+2) (by omega) (by omega) _ _
def GV(s x y a b n m c d)(w:World)(j:LG w w s a n c x)(q:LG w w s b m d y)(W:n≠0)(T:m≠0)(H:x.natAbs<y.natAbs):
 Calls prog 232 #[.agg #[s,Z a n c],.agg #[s,Z b m d]] w (tb w (x-y)):=by
 have g0:((n:Int)==0)=false:=by simp;omega
 have g1:((m:Int)==0)=false:=by simp;omega
 have hn:=j.2.2;have F:decide (x.natAbs<y.natAbs)=true:=aP H;have f:=lW w (.cells #[s,Z a n c] 221) (.cells #[s,Z b m d] 221) (.cells #[false,oN] 221);obtain⟨X,i2,i3⟩:=jh w (.cells #[s,Z a n c] 221) (.cells #[s,Z b m d] 221) (.cells #[false,oN] 221);have l:=O (j.go f);have o:=O (q.go f);have M:=O F;have N:=O X;have P:=O i2;have Q:=O i3;have i:=O f;clear j q F X i2 i3 f
 go_enter func232,ntmps232
 go_wp2_with fail
 refine(tP x.natAbs y.natAbs a b n m c d _ (by exact l.2.1) (by exact o.2.1) (by omega)).mono ?_;rintro e wq ⟨S,kq,rfl⟩;rw[M]at S;subst S
 go_upto_region 8 with fail
 refine jp (fun h=>h.heap[w.heap.size]? =some (.cells #[s,Z a n c] 221 (0,0))/\h.heap[w.heap.size+1]? =some (.cells #[s,Z b m d] 221 (0,0))/\h.heap[w.heap.size+2]? =some (.cells #[false,oN] 221 (0,0))/\LG h h s a n c x/\LG h h s b m d y/\Below w w h) ⟨N,P,Q,l,o,gV i kq⟩ ?_;clear N P Q i l o;rintro w0 ⟨j1,j2,k,j,q,B⟩;have u:=TK k;obtain⟨q1,q2,f1,f2⟩:=gQ j1;obtain⟨q3,q4,f3,f4⟩:=gQ j2;have R:=O k;have z:=O B;have l:=O j;have o:=O q;clear j1 j2 k B j q
 go_wp2_with fail
 refine(zG s y x b a m n d c _ (by exact o) (by exact l) T W (cE H)).mono ?_;rintro e w1 ⟨s1,a1,n1,c1,rfl,E,C,a0⟩;have K:=O E;have p:=O C;clear E C q1 q2 q3 q4 f1 f2 f3 f4
 go_wp2_with fail
 refine(wh s1 (y-x) a1 n1 c1 w1 (by exact K)).mono ?_;rintro e w2 ⟨s2,a2,n2,c2,rfl,r,D,A⟩;rw[show -(y-x)=x-y by omega]at r;have g:Below w0 w0 w2:=p.trans (D.mono p.size);have k:=(g.block (w+2) u).trans R;obtain⟨q5,q6,f5,f6⟩:=gQ k;have a3:=p.size;have L:=O r;have t:=O g;have F2:=O A;clear r D g A k R
 go_wp2_with fail
 refine ar (v:=.agg #[s2,Z a2 n2 c2]) ?_ rfl ?_
 .simp[results,results232,go_sem,q5,q6]
 .exact pF L (z.trans (t.mono z.size)) F2 (w+2) (by omega) (by omega) _ _
def Df(s x y a b n m c d)(w:World)(g:LG w w s a n c x)(i:LG w w s b m d y)(f:n≠0)(e:m≠0):
 Calls prog 232 #[.agg #[s,Z a n c],.agg #[s,Z b m d]] w (tb w (x-y)):=by
 by_cases h:y.natAbs<=x.natAbs
 .exact zG s x y a b n m c d w g i f e h
 .exact GV s x y a b n m c d w g i f e (by omega)
def QV{s t}(h:s≠t):s=!t:=by revert h;cases s<;>cases t<;>decide
def QW(w:World)(z:Int)(e:Ending)(w':World):Prop:=
 ∃s a n c,e=.returned (.agg #[.bool s,Z a n c])/\LG w' w' s a n c z/\Below w w w'
def Pz(s t)(a9:s≠t)(x y a b n m c d)(w:World)(r:LG w w s a n c x)(j:LG w w t b m d y):
 Calls prog 236 #[.agg #[s,Z a n c],.agg #[t,Z b m d]] w (QW w (x+y)):=by
 have i:=lW w (.cells #[s,Z a n c] 221) (.cells #[t,Z b m d] 221) (.cells #[false,oN] 221);obtain⟨i1,i2,i3⟩:=jh w (.cells #[s,Z a n c] 221) (.cells #[t,Z b m d] 221) (.cells #[false,oN] 221);have hn:=r.2.2;have hm:=j.2.2
 have b0:n=0->x=0:=fun e=>by have h:=r.2.1.len;rw[e]at h;have:=jC.1 h.symm;omega
 have b1:m=0->y=0:=fun e=>by have h:=j.2.1.len;rw[e]at h;have:=jC.1 h.symm;omega
 have b2:=j.2.1.len;have a8:t=decide (y<0):=j.1;have P:=O (r.go i);have R:=O (j.go i);have W:=O i1;have X:=O i2;have I3:=O i3;have g:=O i;have H:=O b2;have b6:=O a8;have Q:=O r;have S:=O j;have E:=O b0;have F:=O b1;clear r j i1 i2 i3 i b2 a8 b0 b1
 by_cases h0:n=0
 .have hx:=E h0
  subst h0;clear W X I3 g E F;have u:=lW w (.cells #[s,Z a 0 c] 221) (.cells #[t,Z b m d] 221) (.cells #[t,Z b m d] 221);obtain⟨e1,e2,K⟩:=jh w (.cells #[s,Z a 0 c] 221) (.cells #[t,Z b m d] 221) (.cells #[t,Z b m d] 221);obtain⟨c0,c1,_,_⟩:=gQ K;have C0:=O c0;have C1:=O c1;have o:=O u;clear c0 c1 e1 e2 K u
  go_enter func236,ntmps236
  go_wp2;refine ar (v:=.agg #[t,Z b m d]) ?_ rfl ?_
  .simp[results,results236,go_sem,C0.out,C1.out]
  .exact⟨t,b,m,d,rfl,by rw[hx,Int.zero_add];exact S.go o,o⟩
 .have g0:((n:Int)==0)=false:=by simp;omega
  by_cases a6:m=0
  .have C:=F a6
   subst a6;clear W X I3 g E F;have u:=lW w (.cells #[s,Z a n c] 221) (.cells #[t,Z b 0 d] 221) (.cells #[s,Z a n c] 221);obtain⟨e1,e2,K⟩:=jh w (.cells #[s,Z a n c] 221) (.cells #[t,Z b 0 d] 221) (.cells #[s,Z a n c] 221);obtain⟨c0,c1,_,_⟩:=gQ K;have C0:=O c0;have C1:=O c1;have o:=O u;clear c0 c1 e1 e2 K u
   go_enter func236,ntmps236
   go_wp2;refine ar (v:=.agg #[s,Z a n c]) ?_ rfl ?_
   .simp[results,results236,go_sem,C0.out,C1.out]
   .exact⟨s,a,n,c,rfl,by rw[C,fB];exact Q.go o,o⟩
  .have g1:((m:Int)==0)=false:=by simp;omega
   have g2:(!(s==t))=true:=by simpa using a9
   have b5:=O (QV a9)
   go_enter func236,ntmps236
   go_upto_region 6 with fail
   refine jp (fun z=>z.heap[w.heap.size]? =some (.cells #[s,Z a n c] 221 (0,0))/\z.heap[w.heap.size+1]? =some (.cells #[t,Z b m d] 221 (0,0))/\z.heap[w.heap.size+2]? =some (.cells #[false,oN] 221 (0,0))/\LG z z s a n c x/\LG z z t b m d y/\Below w w z) ⟨W,X,I3,P,R,g⟩ ?_;clear W X I3 g P R;rintro w0 ⟨j1,j2,D,r,j,a5⟩;have a0:=TK D;obtain⟨q1,q2,_,_⟩:=gQ j1;obtain⟨q3,q4,_,_⟩:=gQ j2;have J3:=O D;have a3:=O a5;have P:=O r;have R:=O j;clear j1 j2 D a5 r j;refine gS 4 [(0,true),(1,true),(2,false),(3,false)] (by kernel_rfl) (by kernel_rfl) ?_
   iterate 2
    refine gU (v:=?_) rfl (fun _ _ _ h=>h) (by rfl) ?_ ?_;rotate_left
    .intro y C
     have x1:=(C.cell (p:=J (w.heap.size)) (by show w.heap.size<w0.heap.size;omega)).trans q1;have x2:=(C.cell (p:=⟨w.heap.size,1,none⟩) (by show w.heap.size<w0.heap.size;omega)).trans q2;have x3:=(C.cell (p:=J (w+1)) (by show w.heap.size+1<w0.heap.size;omega)).trans q3;have x4:=(C.cell (p:=⟨w.heap.size+1,1,none⟩) (by show w.heap.size+1<w0.heap.size;omega)).trans q4;go_simp
     with_reducible rfl
    try simp only[V]
   clear q1 q2 q3 q4;refine gP rfl rfl (fun KK q=>?_);go_simp;refine(wh t y b m d w0.drew (by exact R)).mono ?_;rintro e w1 ⟨s1,a1,n1,c1,rfl,B,L,b7⟩;refine q _ _ L ?_;clear q KK
   have a7:s1=s:=by
    rw[B.1,b5,b6]
    have b9:y≠0:=fun e=>by rw[e,show(0:Int).natAbs=0 from rfl,jP]at H;have:=H.out;simp at this;omega
    by_cases h:y<0
    .rw[aP h];exact aw (by omega)
    .rw[aw h];exact aP (by omega)
   subst a7
   have b8:n1≠0:=fun e=>by
    have h1:=B.2.1.len;rw[e,Int.natAbs_neg,<- H]at h1;omega
   have A:Below w0 w0 w1:=gJ (k:=1) L;have b3:=O B;have f:=O A;clear B L A b7
   try simp only[V]
   refine gP rfl rfl (fun KK q=>?_);go_simp;refine(Df s1 x (-y) a a1 n n1 c c1 w1 (by exact P.go f) (by exact b3) h0 b8).mono ?_;rintro e w2 ⟨s2,a2,n2,c2,rfl,N,M,a4⟩;refine q _ _ M ?_;clear q KK;rw[show x- -y=x+y by omega]at N;have l:Below w0 w0 w2:=f.trans (M.mono f.size);have D:=(l.block (w+2) a0).trans J3;obtain⟨q5,q6,f5,f6⟩:=gQ D;have a7:=f.size;have b4:=O N;have T:=O l;have F2:=O a4;clear N M l a4 D J3
   try simp only[V]
   refine iu rfl ?_
   go_wp2_with fail
   refine ar (v:=.agg #[s2,Z a2 n2 c2]) ?_ rfl ?_
   .simp[results,results236,go_sem,q5,q6]
   .obtain⟨z1,z2,z3,z4,z5,z6,z7,z8⟩:=pF (w:=w) b4 (a3.trans (T.mono a3.size)) F2 (w+2) (by omega) (by omega) (.bool s2) (.slice a2 n2 c2)
    exact⟨z1,z2,z3,z4,z5,z6,z7⟩
def EJ(s t x y a b n m c d)(w:World)(g:LG w w s a n c x)(i:LG w w t b m d y)(f:(ip (x+y).natAbs).length<=600):
 Calls prog 236 #[.agg #[s,Z a n c],.agg #[t,Z b m d]] w (QW w (x+y)):=by
 by_cases h:s=t
 .subst h
  refine(Ps w s x y a b n m c d w g i (aa _) f).mono ?_;rintro e w' ⟨s',a',n',c',rfl,h1,h2,_⟩;exact⟨s',a',n',c',rfl,h1,h2⟩
 .exact Pz s t h x y a b n m c d w g i
def T7(r s):mkRat (r.num*s.den+s.num*r.den) (r.den*s.den)=r+s:=by
 rw[Rat.add_def,fX,eJ (Nat.mul_ne_zero r.den_nz s.den_nz)]
def T8{k l r s}(h1:Sz k r)(h2:Sz l s):(r.num*s.den+s.num*r.den).natAbs<1000000000^(k+l+1)/\r.den*s.den<1000000000^(k+l):=by
 have a:(r.num*s.den).natAbs<1000000000^(k+l):=by rw[eG,dm,aB];exact cU h1.1 h2.2
 have b:(s.num*r.den).natAbs<1000000000^(k+l):=by rw[eG,dm,aB,cd];exact cU h1.2 h2.1
 refine⟨?_,by rw[dm];exact cU h1.2 h2.2⟩;rw[bM];omega
def M3{k l r s}(h1:Sz k r)(h2:Sz l s):(r.num*s.den).natAbs<1000000000^(k+l):=by
 rw[eG,dm,aB];exact cU h1.1 h2.2
def M4(g i k1 k2 s t a b a' b' n m c d n' m' c' d')(w:World)(h1:QL w w s a n c b m d g)(h2:QL w w t a' n' c' b' m' d' i)(z1:Sz k1 g)(z2:Sz k2 i)(hk:k1+k2<=598):
 Calls prog 257 #[.agg #[s,Z a n c,false,Z b m d],.agg #[t,Z a' n' c',false,Z b' m' d']] w (GO w (g+i)):=by
 obtain⟨zn,zd⟩:=T8 z1 z2;have ln:(ip (g.num*i.den+i.num*g.den).natAbs).length<=599:=af (iB zn) (by omega);have ld:(ip (g.den*i.den)).length<=599:=af (iB zd) (by omega);have b3:(ip (g.num*((i.den:Nat):Int)).natAbs).length<=600:=af (iB (M3 z1 z2)) (by omega);have b5:(ip (i.num*((g.den:Nat):Int)).natAbs).length<=600:=af (iB (M3 z2 z1)) (by omega);have c8:0<g.den*i.den:=dZ (bq g.den_nz) (bq i.den_nz);have b2:=T7 g i;generalize g+i=R at*;obtain⟨i0,i1,i2⟩:=jh w (.cells #[s,Z a n c,false,Z b m d] 243) (.cells #[t,Z a' n' c',false,Z b' m' d'] 243) (.cells #[false,oN,false,oN] 243);have M:=oF w (.cells #[s,Z a n c,false,Z b m d] 243) (.cells #[t,Z a' n' c',false,Z b' m' d'] 243) (.cells #[false,oN,false,oN] 243);have I0:=O i0;have I1:=O i1;have I2:=O i2;have q:=O M;have K:=O h1;have L:=O h2;have b9:=O ln;have a8:=O ld;have c6:=O b2;have b7:=O b3;have b8:=O b5;clear i0 i1 i2 M h1 h2 zn zd ln ld b2 b3 b5
 go_enter func257,ntmps257
 go_upto_region 1 with fail
 refine jp (fun wx=>pO wx w s a n c false b m d/\pO wx (w+1) t a' n' c' false b' m' d'/\pO wx (w+2) false none 0 0 false none 0 0/\Below w w wx) ⟨I0,I1,I2,q⟩ ?_;clear I0 I1 I2 q;rintro w1 ⟨h0,h1,h2,M⟩;have l0:=TK h0;have l1:=TK h1;have l2:=TK h2;obtain⟨c0,c1,c2,c3⟩:=gL h0;obtain⟨e0,e1,e2,e3⟩:=gL h1;have S:=O h2;have q:=O M;clear h0 h1 h2 M;refine gS 17 [(0,true),(1,true),(2,true),(3,true),(5,true),(6,true),(7,true),(8,true),(11,true),(12,true),(13,true),(14,true),(4,false),(9,false),(10,false),(15,false),(16,false)] (by kernel_rfl) (by kernel_rfl) ?_
 iterate 12
  refine gU (v:=?_) rfl (fun _ _ _ h=>h) (by rfl) ?_ ?_;rotate_left
  .intro y A
   have x0:=(A.cell (p:=J (w.heap.size)) l0).trans c0;have x1:=(A.cell (p:=⟨w.heap.size,1,none⟩) l0).trans c1;have x2:=(A.cell (p:=⟨w.heap.size,2,none⟩) l0).trans c2;have x3:=(A.cell (p:=⟨w.heap.size,3,none⟩) l0).trans c3;have y0:=(A.cell (p:=J (w+1)) l1).trans e0;have y1:=(A.cell (p:=⟨w.heap.size+1,1,none⟩) l1).trans e1;have y2:=(A.cell (p:=⟨w.heap.size+1,2,none⟩) l1).trans e2;have y3:=(A.cell (p:=⟨w.heap.size+1,3,none⟩) l1).trans e3;go_simp
   with_reducible rfl
  try simp only[V]
 clear c0 c1 c2 c3 e0 e1 e2 e3;refine gP rfl rfl (fun x f=>?_);go_simp;refine(qA s false g.num ((i.den:Nat):Int) a b' n m' c d' w1.drew (by exact K.n.go (oP q)) (by exact L.d.go (oP q)) b7).mono ?_;rintro e w2 ⟨s2,a2,n2,c2,rfl,a9,N,_⟩;refine f _ _ N ?_;clear f x;have C:Below w1 w1 w2:=gJ (k:=1) N;have a0:=O a9;have l:=O C;clear a9 N C
 try simp only[V]
 refine gP rfl rfl (fun x f=>?_);go_simp;refine(qA t false i.num ((g.den:Nat):Int) a' b n' m c' d w2 (by exact(L.n.go q).go l) (by exact(K.d.go q).go l) b8).mono ?_;rintro e w3 ⟨s3,a3,n3,c3,rfl,b0,D,_⟩;refine f _ _ D ?_;clear f x;have B:=O (a0.go D);have a1:=O b0;have r:=O (l.trans (D.mono l.size));clear b0 D a0 l
 try simp only[V]
 refine gP rfl rfl (fun x f=>?_);go_simp;refine(EJ s2 s3 (g.num*((i.den:Nat):Int)) (i.num*((g.den:Nat):Int)) a2 a3 n2 n3 c2 c3 w3 (by exact B) (by exact a1) (by have:=b9.out;omega)).mono ?_;rintro e w4 ⟨sQ,aQ,nQ,cQ,rfl,b1,o⟩;refine f _ _ o ?_;clear f x;have a7:=O b1;have j:=O (r.trans (o.mono r.size));clear b1 o B a1 r
 try simp only[V]
 refine gP rfl rfl (fun x f=>?_);go_simp;refine(qA false false ((g.den:Nat):Int) ((i.den:Nat):Int) b b' m m' d d' w4 (by exact(K.d.go q).go j) (by exact(L.d.go q).go j) (by rw[<- bW,aB];have:=a8.out;omega)).mono ?_;rintro e w5 ⟨s5,a5,n5,c5,rfl,F,E,_⟩;refine f _ _ E ?_;clear f x;rw[<- bW]at F
 have c9:s5=false:=by rw[F.1];exact aw (Int.not_lt.2 (dP _))
 subst c9;have T:=O (a7.go E);have a6:=O F;have u:=O (j.trans (E.mono j.size));clear F E a7 j
 try simp only[V]
 refine gP rfl rfl (fun x f=>?_);go_simp;refine(sD sQ (g.num*i.den+i.num*g.den) (g.den*i.den) aQ a5 nQ n5 cQ c5 w5 (by exact T) (by exact a6) c8 (by have:=mW a6;rw[aB]at this;have:=a8.out;omega)).mono ?_;rintro e w6 ⟨s4,W,n4,c4,b4,m4,d4,rfl,Q,P,o,f4,g4⟩;refine f _ _ o ?_;clear f x;rw[c6]at Q P;have z:=u.trans (o.mono u.size);have h2:=(z.block _ l2).trans S;have H:=u.size;have F4:=O (f4.mono H);have G4:=O (g4.mono H);have c7:=O Q;have b6:=O P;have j:=O z;clear Q P o z f4 g4 S;obtain⟨d0,d1,d2,d3⟩:=gL h2;have f0:=gD h2 0;have f1:=gD h2 1;have f2:=gD h2 2;have f3:=gD h2 3;have S:=O h2;clear h2
 try simp only[V]
 refine iu rfl ?_
 go_wp2_with fail
 have X:=kl (s':=s4) (a':=W) (n':=n4) (c':=c4) (t':=false) (b':=b4) (m':=m4) (d':=d4) S;obtain⟨k0,k1,k2,k3⟩:=gL X;refine ar (v:=.agg #[s4,Z W n4 c4,false,Z b4 m4 d4]) ?_ rfl ?_
 .simp[results,results257,go_sem,k0,k1,k2,k3]
 .have o4:mx w (w+3) W n4:=mx.ofFresh (F4.mono (by omega))
  have o5:mx w (w+3) b4 m4:=mx.ofFresh (G4.mono (by omega));exact⟨s4,W,n4,c4,b4,m4,d4,rfl,qY c7 o4 (show w.heap.size<=w.heap.size+2 by omega) (by omega),qY b6 o5 (show w.heap.size<=w.heap.size+2 by omega) (by omega),iR (q.trans (j.mono (by omega))) (by omega),F4.mono (by omega),G4.mono (by omega)⟩
def wj(w:World)(r:Rat)(e:Ending)(w':World):Prop:=
 ∃s a n c b m d,e=.returned (.tuple #[.agg #[.bool s,Z a n c,false,Z b m d],oZ])/\QL w' w' s a n c b m d r/\Below w w w'/\kS w a n/\kS w b m
def Bh(w:World)(r:Rat)(e:Ending)(w':World):Prop:=
 ∃s a n c b m d,e=.returned (.agg #[.bool s,Z a n c,false,Z b m d])/\QL w' w' s a n c b m d r/\Below w w w'
def QL.put{w:World}{s a n c b m d N M e r u v u2 v2}(h:QL w w s a n c b m d r)(f:mx N M a n)(g:mx N M b m)(h1:N<=e)(h2:e<M):
 QL ((((w.setCell (J e) u).setCell ⟨e,1,none⟩ v).setCell ⟨e,2,none⟩ u2).setCell ⟨e,3,none⟩ v2).heap.size ((((w.setCell (J e) u).setCell ⟨e,1,none⟩ v).setCell ⟨e,2,none⟩ u2).setCell ⟨e,3,none⟩ v2) s a n c b m d r:=⟨qY h.n f h1 h2,qY h.d g h1 h2⟩
def M6(k l k1 k2 s t a b a' b' n m c d n' m' c' d')(w:World)(h1:QL w w s a n c b m d k)(h2:QL w w t a' n' c' b' m' d' l)(N:Sz k1 k)(P:Sz k2 l)(hk:k1+k2<=599):
 Calls prog 194 #[.agg #[s,Z a n c,false,Z b m d],.agg #[t,Z a' n' c',false,Z b' m' d']] w (wj w (k*l)):=by
 have a7:=h1.m N;have a8:=h2.m P;obtain⟨i0,i1,i2⟩:=jh w (.cells #[s,Z a n c,false,Z b m d] 243) (.cells #[t,Z a' n' c',false,Z b' m' d'] 243) (.cells #[false,oN,false,oN] 243);have x:=oF w (.cells #[s,Z a n c,false,Z b m d] 243) (.cells #[t,Z a' n' c',false,Z b' m' d'] 243) (.cells #[false,oN,false,oN] 243);have I0:=O i0;have I1:=O i1;have I2:=O i2;have j:=O x;have Q:=O h1;have S:=O h2;have Z1:=O N;have Z2:=O P;have HR:=O (fun(W:World)(g1:QL W W s a n c b m d k)(g2:QL W W t a' n' c' b' m' d' l)=>KD k l k1 k2 s t a b a' b' n m c d n' m' c' d' W g1 g2 N P hk);clear i0 i1 i2 x h1 h2 N P;generalize k*l=R at*
 go_enter func194,ntmps194
 go_upto_region 1 with fail
 refine jp (fun M=>pO M w s a n c false b m d/\pO M (w+1) t a' n' c' false b' m' d'/\pO M (w+2) false none 0 0 false none 0 0/\Below w w M) ⟨I0,I1,I2,j⟩ ?_;clear I0 I1 I2 j;rintro L ⟨K,j1,h,x⟩;have l0:=TK K;have l1:=TK j1;have l2:=TK h;obtain⟨c0,c1,c2,c3⟩:=gL K;have J0:=O K;have J1:=O j1;have J2:=O h;have j:=O x;clear K j1 h x
 go_wp2_with fail
 refine(mF k s a b n m c d _ (by exact Q.go j) (by omega)).mono ?_;rintro e w2 ⟨rfl,y⟩;obtain⟨e0,e1,e2,e3⟩:=gL ((y.block _ l1).trans J1);have o:=O y;clear y c0 c1 c2 c3
 go_wp2_with fail
 refine(mF l t a' b' n' m' c' d' _ (by exact(S.go j).go o) (by omega)).mono ?_;rintro e w3 ⟨rfl,a0⟩;have g:Below L L w3:=o.trans (a0.mono o.size);obtain⟨c0,c1,c2,c3⟩:=gL ((g.block _ l0).trans J0);obtain⟨d0,d1,d2,d3⟩:=gL ((g.block _ l1).trans J1);have f:=O g;clear a0 g e0 e1 e2 e3 o
 go_wp2_with fail
 refine(HR _ (by exact(Q.go j).go f) (by exact(S.go j).go f)).mono ?_;rintro e w4 ⟨C,p,r,c4,b4,q,u,rfl,B,A,a1,f4,g4⟩;have H:=B.2.2;have F:=A.2.2;have X:=O (show QL w4 w4 C p r c4 b4 q u R from⟨B,A⟩);have T:=O a1;have F4:=O f4;have G4:=O g4;clear B A a1 f4 g4 c0 c1 c2 c3 d0 d1 d2 d3
 go_wp2_with fail
 refine(zF C false p b4 r q c4 u w4 H F).mono ?_;rintro e w5 ⟨rfl,z⟩;have i:Below L L w5:=(f.trans (T.mono f.size)).trans (z.mono (by have:=f.size;have:=T.size;omega));have a6:=f.size;have h:=(i.block _ l2).trans J2;have a2:=O (X.go z);have D:=O i;clear z i X;obtain⟨d0,d1,d2,d3⟩:=gL h;have f0:=gD h 0;have f1:=gD h 1;have f2:=gD h 2;have f3:=gD h 3;have H2:=O h;clear h
 go_wp2_with fail
 have E:=kl (s':=C) (a':=p) (n':=r) (c':=c4) (t':=false) (b':=b4) (m':=q) (d':=u) H2;obtain⟨k0,a3,a5,k3⟩:=gL E;refine ar (v:=.tuple #[.agg #[C,Z p r c4,false,Z b4 q u],oZ]) ?_ rfl ?_
 .simp[results,results194,go_sem,k0,a3,a5,k3]
 .have o4:mx w (w+3) p r:=mx.ofFresh (F4.mono (by omega))
  have o5:mx w (w+3) b4 q:=mx.ofFresh (G4.mono (by omega));exact⟨C,p,r,c4,b4,q,u,rfl,a2.put o4 o5 (show w.heap.size<=w.heap.size+2 by omega) (by omega),iR (j.trans (D.mono (by omega))) (by omega),F4.mono (by omega),G4.mono (by omega)⟩
def M7(k l k1 k2 s t a b a' b' n m c d n' m' c' d')(w:World)(h1:QL w w s a n c b m d k)(h2:QL w w t a' n' c' b' m' d' l)(N:Sz k1 k)(P:Sz k2 l)(hk:k1+k2<=598):
 Calls prog 229 #[.agg #[s,Z a n c,false,Z b m d],.agg #[t,Z a' n' c',false,Z b' m' d']] w (wj w (k+l)):=by
 have a7:=h1.m N;have a8:=h2.m P;obtain⟨i0,i1,i2⟩:=jh w (.cells #[s,Z a n c,false,Z b m d] 243) (.cells #[t,Z a' n' c',false,Z b' m' d'] 243) (.cells #[false,oN,false,oN] 243);have x:=oF w (.cells #[s,Z a n c,false,Z b m d] 243) (.cells #[t,Z a' n' c',false,Z b' m' d'] 243) (.cells #[false,oN,false,oN] 243);have I0:=O i0;have I1:=O i1;have I2:=O i2;have j:=O x;have Q:=O h1;have S:=O h2;have Z1:=O N;have Z2:=O P;have HR:=O (fun(W:World)(g1:QL W W s a n c b m d k)(g2:QL W W t a' n' c' b' m' d' l)=>M4 k l k1 k2 s t a b a' b' n m c d n' m' c' d' W g1 g2 N P hk);clear i0 i1 i2 x h1 h2 N P;generalize k+l=R at*
 go_enter func229,ntmps229
 go_upto_region 1 with fail
 refine jp (fun M=>pO M w s a n c false b m d/\pO M (w+1) t a' n' c' false b' m' d'/\pO M (w+2) false none 0 0 false none 0 0/\Below w w M) ⟨I0,I1,I2,j⟩ ?_;clear I0 I1 I2 j;rintro L ⟨K,j1,h,x⟩;have l0:=TK K;have l1:=TK j1;have l2:=TK h;obtain⟨c0,c1,c2,c3⟩:=gL K;have J0:=O K;have J1:=O j1;have J2:=O h;have j:=O x;clear K j1 h x
 go_wp2_with fail
 refine(mF k s a b n m c d _ (by exact Q.go j) (by omega)).mono ?_;rintro e w2 ⟨rfl,y⟩;obtain⟨e0,e1,e2,e3⟩:=gL ((y.block _ l1).trans J1);have o:=O y;clear y c0 c1 c2 c3
 go_wp2_with fail
 refine(mF l t a' b' n' m' c' d' _ (by exact(S.go j).go o) (by omega)).mono ?_;rintro e w3 ⟨rfl,a0⟩;have g:Below L L w3:=o.trans (a0.mono o.size);obtain⟨c0,c1,c2,c3⟩:=gL ((g.block _ l0).trans J0);obtain⟨d0,d1,d2,d3⟩:=gL ((g.block _ l1).trans J1);have f:=O g;clear a0 g e0 e1 e2 e3 o
 go_wp2_with fail
 refine(HR _ (by exact(Q.go j).go f) (by exact(S.go j).go f)).mono ?_;rintro e w4 ⟨C,p,r,c4,b4,q,u,rfl,B,A,a1,f4,g4⟩;have H:=B.2.2;have F:=A.2.2;have X:=O (show QL w4 w4 C p r c4 b4 q u R from⟨B,A⟩);have T:=O a1;have F4:=O f4;have G4:=O g4;clear B A a1 f4 g4 c0 c1 c2 c3 d0 d1 d2 d3
 go_wp2_with fail
 refine(zF C false p b4 r q c4 u w4 H F).mono ?_;rintro e w5 ⟨rfl,z⟩;have i:Below L L w5:=(f.trans (T.mono f.size)).trans (z.mono (by have:=f.size;have:=T.size;omega));have a6:=f.size;have h:=(i.block _ l2).trans J2;have a2:=O (X.go z);have D:=O i;clear z i X;obtain⟨d0,d1,d2,d3⟩:=gL h;have f0:=gD h 0;have f1:=gD h 1;have f2:=gD h 2;have f3:=gD h 3;have H2:=O h;clear h
 go_wp2_with fail
 have E:=kl (s':=C) (a':=p) (n':=r) (c':=c4) (t':=false) (b':=b4) (m':=q) (d':=u) H2;obtain⟨k0,a3,a5,k3⟩:=gL E;refine ar (v:=.tuple #[.agg #[C,Z p r c4,false,Z b4 q u],oZ]) ?_ rfl ?_
 .simp[results,results229,go_sem,k0,a3,a5,k3]
 .have o4:mx w (w+3) p r:=mx.ofFresh (F4.mono (by omega))
  have o5:mx w (w+3) b4 q:=mx.ofFresh (G4.mono (by omega));exact⟨C,p,r,c4,b4,q,u,rfl,a2.put o4 o5 (show w.heap.size<=w.heap.size+2 by omega) (by omega),iR (j.trans (D.mono (by omega))) (by omega),F4.mono (by omega),G4.mono (by omega)⟩
def nM(p q k1 D s t a b a' b' n m c d n' m' c' d')(w:World)(h1:QL w w s a n c b m d p)(h2:QL w w t a' n' c' b' m' d' q)(z1:Sz k1 p)(z2:Sz D q)(hk:k1+D<=599):
 Calls prog 156 #[.agg #[s,Z a n c,false,Z b m d],.agg #[t,Z a' n' c',false,Z b' m' d']] w (Bh w (p*q)):=by
 obtain⟨W,X,i2⟩:=jh w (.cells #[s,Z a n c,false,Z b m d] 243) (.cells #[t,Z a' n' c',false,Z b' m' d'] 243) (.cells #[false,oN,false,oN] 243);have u:=oF w (.cells #[s,Z a n c,false,Z b m d] 243) (.cells #[t,Z a' n' c',false,Z b' m' d'] 243) (.cells #[false,oN,false,oN] 243);have P:=O i2;have C:=O u;have I0:=O W;have I1:=O X;have L:=O (M6 p q k1 D s t a b a' b' n m c d n' m' c' d' _ (h1.go u) (h2.go u) z1 z2 hk);clear W X i2 u h1 h2 z1 z2;generalize p*q=R at*
 go_enter func156,ntmps156
 go_wp2_with fail
 refine L.mono ?_;rintro e g ⟨r,h,j,c4,b4,i,l,rfl,B,k,S,T⟩
 have a2:w.heap.size+3<=g.heap.size:=by have:=k.size;simp at this;omega
 have f:=(k.block (w+2) (by simp)).trans P;have A:Below w w g:=C.trans (k.mono C.size);have E:kS (w+3) h j:=S.mono (by simp);have F:kS (w+3) b4 i:=T.mono (by simp);have N:=O B;have Q:=O f;have M:=O A;have H:=O E;have K:=O F;clear B k S T f A E F I0 I1 P C L
 go_upto_region 2 with fail
 have z:=(TH g g).alloc (aa _) (.cells #[r,Z h j c4,false,Z b4 i l] 243);refine jp (fun wx=>pO wx g r h j c4 false b4 i l/\Below g g wx) ⟨TL g _,z⟩ ?_;clear z;rintro w2 ⟨h5,o⟩;obtain⟨c0,c1,c2,c3⟩:=gL h5;have f:=(o.block _ (TK Q)).trans Q;obtain⟨d0,d1,d2,d3⟩:=gL f;have f0:=gD f 0;have f1:=gD f 1;have f2:=gD f 2;have f3:=gD f 3;have H2:=O f;have y:=O o;clear f h5 o
 go_wp2_with fail
 have x:=kl (s':=r) (a':=h) (n':=j) (c':=c4) (t':=false) (b':=b4) (m':=i) (d':=l) H2;obtain⟨k0,a0,a1,k3⟩:=gL x;refine ar (v:=.agg #[r,Z h j c4,false,Z b4 i l]) ?_ rfl ?_
 .simp[results,results156,go_sem,k0,a0,a1,k3]
 .have o4:mx w (w+3) h j:=mx.ofFresh H
  have o5:mx w (w+3) b4 i:=mx.ofFresh K;exact⟨r,h,j,c4,b4,i,l,rfl,(N.go y).put o4 o5 (show w.heap.size<=w.heap.size+2 by omega) (by omega),iR (M.trans (y.mono (by omega))) (by omega)⟩
def tR(p q k1 D s t a b a' b' n m c d n' m' c' d')(w:World)(h1:QL w w s a n c b m d p)(h2:QL w w t a' n' c' b' m' d' q)(z1:Sz k1 p)(z2:Sz D q)(hk:k1+D<=598):
 Calls prog 190 #[.agg #[s,Z a n c,false,Z b m d],.agg #[t,Z a' n' c',false,Z b' m' d']] w (Bh w (p+q)):=by
 obtain⟨W,X,i2⟩:=jh w (.cells #[s,Z a n c,false,Z b m d] 243) (.cells #[t,Z a' n' c',false,Z b' m' d'] 243) (.cells #[false,oN,false,oN] 243);have u:=oF w (.cells #[s,Z a n c,false,Z b m d] 243) (.cells #[t,Z a' n' c',false,Z b' m' d'] 243) (.cells #[false,oN,false,oN] 243);have P:=O i2;have C:=O u;have I0:=O W;have I1:=O X;have L:=O (M7 p q k1 D s t a b a' b' n m c d n' m' c' d' _ (h1.go u) (h2.go u) z1 z2 hk);clear W X i2 u h1 h2 z1 z2;generalize p+q=R at*
 go_enter func190,ntmps190
 go_wp2_with fail
 refine L.mono ?_;rintro e g ⟨r,h,j,c4,b4,i,l,rfl,B,k,S,T⟩
 have a2:w.heap.size+3<=g.heap.size:=by have:=k.size;simp at this;omega
 have f:=(k.block (w+2) (by simp)).trans P;have A:Below w w g:=C.trans (k.mono C.size);have E:kS (w+3) h j:=S.mono (by simp);have F:kS (w+3) b4 i:=T.mono (by simp);have N:=O B;have Q:=O f;have M:=O A;have H:=O E;have K:=O F;clear B k S T f A E F I0 I1 P C L
 go_upto_region 2 with fail
 have z:=(TH g g).alloc (aa _) (.cells #[r,Z h j c4,false,Z b4 i l] 243);refine jp (fun wx=>pO wx g r h j c4 false b4 i l/\Below g g wx) ⟨TL g _,z⟩ ?_;clear z;rintro w2 ⟨h5,o⟩;obtain⟨c0,c1,c2,c3⟩:=gL h5;have f:=(o.block _ (TK Q)).trans Q;obtain⟨d0,d1,d2,d3⟩:=gL f;have f0:=gD f 0;have f1:=gD f 1;have f2:=gD f 2;have f3:=gD f 3;have H2:=O f;have y:=O o;clear f h5 o
 go_wp2_with fail
 have x:=kl (s':=r) (a':=h) (n':=j) (c':=c4) (t':=false) (b':=b4) (m':=i) (d':=l) H2;obtain⟨k0,a0,a1,k3⟩:=gL x;refine ar (v:=.agg #[r,Z h j c4,false,Z b4 i l]) ?_ rfl ?_
 .simp[results,results190,go_sem,k0,a0,a1,k3]
 .have o4:mx w (w+3) h j:=mx.ofFresh H
  have o5:mx w (w+3) b4 i:=mx.ofFresh K;exact⟨r,h,j,c4,b4,i,l,rfl,(N.go y).put o4 o5 (show w.heap.size<=w.heap.size+2 by omega) (by omega),iR (M.trans (y.mono (by omega))) (by omega)⟩
def KE(x)(y:Nat)(s a b n m c d)(w:World)(ha:LG w w s a n c x)(p:LG w w false b m d (y:Int))(hy:0<y)(hm:m<=599):
 Calls prog 235 #[.agg #[s,Z a n c],.agg #[false,Z b m d]] w (wj w (mkRat x y)):=by
 have a3:((m:Int)==0)=false:=by
  have:=mW p;rw[aB]at this
  have h0:m≠0:=fun e=>by rw[e]at this;have:=jC.1 this.symm;omega
  simp;omega
 obtain⟨i0,i1,i2⟩:=jh w (.cells #[s,Z a n c] 221) (.cells #[false,Z b m d] 221) (.cells #[false,oN,false,oN] 243);have o:=oF w (.cells #[s,Z a n c] 221) (.cells #[false,Z b m d] 221) (.cells #[false,oN,false,oN] 243);have W:=O i0;have X:=O i1;have I2:=O i2;have j:=O o;have R:=O ha;have S:=O p;clear i0 i1 i2 o ha p
 go_enter func235,ntmps235
 go_upto_region 1 with fail
 refine jp (fun E=>td E w s a n c/\td E (w+1) false b m d/\pO E (w+2) false none 0 0 false none 0 0/\Below w w E) ⟨W,X,I2,j⟩ ?_;clear W X I2 j;rintro D ⟨B,M,h,o⟩;have l0:=TK B;have l1:=TK M;have l2:=TK h;obtain⟨c0,c1,_,_⟩:=gQ B;have J0:=O B;have J1:=O M;have J2:=O h;have j:=O o;clear B M h o
 go_wp2_with fail
 refine(rN s x a n c _ (by exact R.go j)).mono ?_;rintro e w2 ⟨rfl,q⟩;obtain⟨e0,e1,_,_⟩:=gQ ((q.block _ l1).trans J1);have k:=O q;clear q c0 c1
 go_wp2_with fail
 refine(rN false (y:Int) b m d _ (by exact(S.go j).go k)).mono ?_;rintro e w3 ⟨rfl,F⟩;have g:Below D D w3:=k.trans (F.mono k.size);obtain⟨c0,c1,_,_⟩:=gQ ((g.block _ l0).trans J0);obtain⟨d0,d1,_,_⟩:=gQ ((g.block _ l1).trans J1);have f:=O g;clear F g e0 e1 k
 go_wp2_with fail
 refine(sD s x y a b n m c d _ (by exact(R.go j).go f) (by exact(S.go j).go f) hy hm).mono ?_;rintro e N ⟨C,l,t,c4,b4,r,z,rfl,L,K,H,f4,g4⟩;have i:Below D D N:=f.trans (H.mono f.size);have a2:=f.size;have h:=(i.block _ l2).trans J2;have T:=O (show QL N N C l t c4 b4 r z (mkRat x y)from⟨L,K⟩);have u:=O i;have P:=O f4;have Q:=O g4;clear L K H f4 g4 i c0 c1 d0 d1;obtain⟨d0,d1,d2,d3⟩:=gL h;have f0:=gD h 0;have f1:=gD h 1;have f2:=gD h 2;have f3:=gD h 3;have H2:=O h;clear h
 go_wp2_with fail
 have A:=kl (s':=C) (a':=l) (n':=t) (c':=c4) (t':=false) (b':=b4) (m':=r) (d':=z) H2;obtain⟨k0,a0,a1,k3⟩:=gL A;refine ar (v:=.tuple #[.agg #[C,Z l t c4,false,Z b4 r z],oZ]) ?_ rfl ?_
 .simp[results,results235,go_sem,k0,a0,a1,k3]
 .have o4:mx w (w+3) l t:=mx.ofFresh (P.mono (by omega))
  have o5:mx w (w+3) b4 r:=mx.ofFresh (Q.mono (by omega));exact⟨C,l,t,c4,b4,r,z,rfl,T.put o4 o5 (show w.heap.size<=w.heap.size+2 by omega) (by omega),iR (j.trans (u.mono (by omega))) (by omega),P.mono (by omega),Q.mono (by omega)⟩
def PA(x:Int)(y:Nat)(w)(h1: -9223372036854775808<=x)(h2:x<=9223372036854775807)(hy:0<y)(u:(y:Int)<=9223372036854775807):
 Calls prog 195 #[x,.int .i64 (y:Int)] w (wj w (mkRat x y)):=by
 have p:=(TH w w).alloc (aa _) (.cells #[false,oN,false,oN] 243);have Q:pO (w.alloc (.cells #[false,oN,false,oN] 243)) w false none 0 0 false none 0 0:=TL w _;have N:=nu (y:Int) (by omega) u;have n:=O p;have F:=O Q;have Hl:=O N;clear p Q N
 go_enter func195,ntmps195
 go_upto_region 1 with fail
 refine jp (fun wx=>pO wx w false none 0 0 false none 0 0/\Below w w wx) ⟨F,n⟩ ?_;clear F n;rintro X ⟨A,M⟩;have l0:=TK A;have J0:=O A;have Hb:=O M;clear A M
 go_wp2_with fail
 refine(oT x _ h1 h2).mono ?_;rintro e w2 ⟨s2,a2,n2,c2,rfl,s,q,_⟩;have o:=O s;have f:=O q;clear s q
 go_wp2_with fail
 refine(oT (y:Int) _ (by omega) u).mono ?_;rintro e w3 ⟨s3,a3,W,c3,rfl,d,g,_⟩
 have R:s3=false:=by rw[d.1];exact aw (by omega)
 subst R
 have P:W<=599:=by have:=mW d;have:=Hl.out;omega
 have i:=O (o.go g);have E:=O d;have a:=O (f.trans (g.mono f.size));clear d g o f
 go_wp2_with fail
 refine(KE x y s2 a2 a3 n2 W c2 c3 w3 (by exact i) (by exact E) hy P).mono ?_;rintro e w4 ⟨B,j,m,c4,b4,l,z,rfl,t,r,K,L⟩;have b:Below X X w4:=a.trans (r.mono a.size);have a0:=a.size;have c:=(b.block _ l0).trans J0;have H:=O t;have h:=O b;have C:=O K;have D:=O L;clear t r K L b;obtain⟨d0,d1,d2,d3⟩:=gL c;have f0:=gD c 0;have f1:=gD c 1;have f2:=gD c 2;have f3:=gD c 3;have H2:=O c;clear c
 go_wp2_with fail
 have k:=kl (s':=B) (a':=j) (n':=m) (c':=c4) (t':=false) (b':=b4) (m':=l) (d':=z) H2;obtain⟨k0,S,T,k3⟩:=gL k;refine ar (v:=.tuple #[.agg #[B,Z j m c4,false,Z b4 l z],oZ]) ?_ rfl ?_
 .simp[results,results195,go_sem,k0,S,T,k3]
 .have o4:mx w (w+1) j m:=mx.ofFresh (C.mono (by omega))
  have o5:mx w (w+1) b4 l:=mx.ofFresh (D.mono (by omega));exact⟨B,j,m,c4,b4,l,z,rfl,H.put o4 o5 (aa _) (by omega),iR (Hb.trans (h.mono (by omega))) (aa _),C.mono (by omega),D.mono (by omega)⟩
def pQ(x:Int)(y:Nat)(w)(h1: -9223372036854775808<=x)(h2:x<=9223372036854775807)(R:0<y)(F:(y:Int)<=9223372036854775807):
 Calls prog 157 #[x,.int .i64 (y:Int)] w (Bh w (mkRat x y)):=by
 have b:=(TH w w).alloc (aa _) (.cells #[false,oN,false,oN] 243);have D:pO (w.alloc (.cells #[false,oN,false,oN] 243)) w false none 0 0 false none 0 0:=TL w _;have p:=O b;have u:=O D;clear b D
 go_enter func157,ntmps157
 go_upto_region 1 with fail
 refine jp (fun m=>pO m w false none 0 0 false none 0 0/\Below w w m) ⟨u,p⟩ ?_;clear u p;rintro w0 ⟨r,C⟩;have l0:=TK r;have Q:=O r;have P:=O C;clear r C
 go_wp2_with fail
 refine(PA x y _ h1 h2 R F).mono ?_;rintro e h ⟨l,d,g,c4,b4,f,i,rfl,q,k,A,B⟩;have E:=k.size;have z:=O q;have t:=O k;have L:=O A;have M:=O B;clear q k A B
 go_upto_region 2 with fail
 have b:=(TH h h).alloc (aa _) (.cells #[l,Z d g c4,false,Z b4 f i] 243);refine jp (fun m=>pO m h l d g c4 false b4 f i/\Below h h m) ⟨TL h _,b⟩ ?_;clear b;rintro X ⟨h5,j⟩;obtain⟨c0,c1,c2,c3⟩:=gL h5;have a:Below w0 w0 X:=t.trans (j.mono E);have c:=(a.block _ l0).trans Q;obtain⟨d0,d1,d2,d3⟩:=gL c;have f0:=gD c 0;have f1:=gD c 1;have f2:=gD c 2;have f3:=gD c 3;have N:=O c;have s:=O j;have n:=O a;clear c h5 j a
 go_wp2_with fail
 have o:=kl (s':=l) (a':=d) (n':=g) (c':=c4) (t':=false) (b':=b4) (m':=f) (d':=i) N;obtain⟨k0,H,K,S⟩:=gL o;refine ar (v:=.agg #[l,Z d g c4,false,Z b4 f i]) ?_ rfl ?_
 .simp[results,results157,go_sem,k0,H,K,S]
 .have T:mx w (w+1) d g:=mx.ofFresh (L.mono (by omega))
  have W:mx w (w+1) b4 f:=mx.ofFresh (M.mono (by omega));exact⟨l,d,g,c4,b4,f,i,rfl,(z.go s).put T W (aa _) (by omega),iR (P.trans (n.mono (by omega))) (aa _)⟩
def Jq(r){s}(a:0<s.num):r/s=mkRat (r.num*((s.den:Nat):Int)) (r.den*s.num.natAbs):=by
 have hi:(s⁻¹).num=((s.den:Nat):Int)/\(s⁻¹).den=s.num.natAbs:=by
  show(Rat.inv s).num=_/\(Rat.inv s).den=_
  unfold Rat.inv;rw[eJ (by omega),fo a];exact⟨rfl,rfl⟩
 rw[Rat.div_def,<- GU,hi.1,hi.2]
def M8{k l r s}(h1:Sz k r)(h2:Sz l s):(r.num*((s.den:Nat):Int)).natAbs<1000000000^(k+l)/\r.den*s.num.natAbs<1000000000^(k+l):=by
 rw[eG,dm,aB];exact⟨cU h1.1 h2.2,cU h1.2 h2.1⟩
def M9(i j k1 k2 s t a b a' b' n m c d n' m' c' d')(w:World)(h1:QL w w s a n c b m d i)(h2:QL w w t a' n' c' b' m' d' j)(z1:Sz k1 i)(z2:Sz k2 j)(hk:k1+k2<=599)(hp:0<j.num):
 Calls prog 256 #[.agg #[s,Z a n c,false,Z b m d],.agg #[t,Z a' n' c',false,Z b' m' d']] w (wj w (i/j)):=by
 have e5:=h1.m z1;have e6:=h2.m z2;obtain⟨i0,i1,i2⟩:=jh w (.cells #[s,Z a n c,false,Z b m d] 243) (.cells #[t,Z a' n' c',false,Z b' m' d'] 243) (.cells #[false,oN,false,oN] 243);have hb:=oF w (.cells #[s,Z a n c,false,Z b m d] 243) (.cells #[t,Z a' n' c',false,Z b' m' d'] 243) (.cells #[false,oN,false,oN] 243);have I0:=O i0;have I1:=O i1;have I2:=O i2;have r:=O hb;have a0:=O h1;have a1:=O h2;have Z1:=O z1;have Z2:=O z2;obtain⟨zn,zd⟩:=M8 z1 z2;have ln:(ip (i.num*((j.den:Nat):Int)).natAbs).length<=599:=af (iB zn) hk;have ld:(ip (i.den*j.num.natAbs)).length<=599:=af (iB zd) hk;have d7:0<i.den*j.num.natAbs:=dZ (bq i.den_nz) (by omega);have c7:=(Jq i hp).symm
 have e7:((n':Int)==0)=false:=by
  have:=mW h2.n
  have h0:n'≠0:=fun e=>by rw[e]at this;have:=jC.1 this.symm;omega
  simp;omega
 have c8:((i.den:Nat):Int)*j.num=((i.den*j.num.natAbs:Nat):Int):=by rw[bW,Int.natAbs_of_nonneg (by omega)]
 have c9:=O ln;have b6:=O ld;have d5:=O c7;have b7:=O c8;clear zn zd ln ld c7 c8;clear i0 i1 i2 hb h1 h2 z1 z2;generalize i/j=R at*
 go_enter func256,ntmps256
 go_upto_region 1 with fail
 refine jp (fun wx=>pO wx w s a n c false b m d/\pO wx (w+1) t a' n' c' false b' m' d'/\pO wx (w+2) false none 0 0 false none 0 0/\Below w w wx) ⟨I0,I1,I2,r⟩ ?_;clear I0 I1 I2 r;rintro w1 ⟨j0,j1,q,hb⟩;have l0:=TK j0;have l1:=TK j1;have l2:=TK q;obtain⟨c0,c1,c2,c3⟩:=gL j0;have J0:=O j0;have J1:=O j1;have J2:=O q;have r:=O hb;clear j0 j1 q hb
 go_wp2_with fail
 refine(mF i s a b n m c d _ (by exact a0.go r) (by omega)).mono ?_;rintro e w2 ⟨rfl,a3⟩;obtain⟨e0,e1,e2,e3⟩:=gL ((a3.block _ l1).trans J1);have D:=O a3;clear a3 c0 c1 c2 c3
 go_wp2_with fail
 refine(mF j t a' b' n' m' c' d' _ (by exact(a1.go r).go D) (by omega)).mono ?_;rintro e X ⟨rfl,b9⟩;have o:Below w1 w1 X:=D.trans (b9.mono D.size);obtain⟨c0,c1,c2,c3⟩:=gL ((o.block _ l0).trans J0);obtain⟨d0,d1,d2,d3⟩:=gL ((o.block _ l1).trans J1);have f:=O o;clear b9 o e0 e1 e2 e3 D
 go_upto_region 5 with fail
 have Z0:=TK ((f.block _ l0).trans J0);have K:=TK ((f.block _ l1).trans J1);refine gS 14 [(0,true),(1,true),(2,true),(3,true),(5,true),(6,true),(7,true),(8,true),(4,false),(9,false),(10,false),(11,false),(12,true),(13,true)] (by kernel_rfl) (by kernel_rfl) ?_
 iterate 8
  refine gU (v:=?_) rfl (fun _ _ _ h=>h) (by rfl) ?_ ?_;rotate_left
  .intro y x
   have x0:=(x.cell (p:=J (w.heap.size)) Z0).trans c0;have x1:=(x.cell (p:=⟨w.heap.size,1,none⟩) Z0).trans c1;have x2:=(x.cell (p:=⟨w.heap.size,2,none⟩) Z0).trans c2;have x3:=(x.cell (p:=⟨w.heap.size,3,none⟩) Z0).trans c3;have y0:=(x.cell (p:=J (w+1)) K).trans d0;have y1:=(x.cell (p:=⟨w.heap.size+1,1,none⟩) K).trans d1;have y2:=(x.cell (p:=⟨w.heap.size+1,2,none⟩) K).trans d2;have y3:=(x.cell (p:=⟨w.heap.size+1,3,none⟩) K).trans d3;go_simp
   with_reducible rfl
  try simp only[V]
 clear c0 c1 c2 c3 d0 d1 d2 d3;refine gP rfl rfl (fun B g=>?_);go_simp;refine(qA s false i.num ((j.den:Nat):Int) a b' n m' c d' X.drew (by exact(a0.n.go r).go (oP f)) (by exact(a1.d.go r).go (oP f)) (by have:=c9.out;omega)).mono ?_;rintro e w4 ⟨C,z,A,c4,rfl,c6,a6,_⟩;refine g _ _ a6 ?_;clear g B;have L:Below X X w4:=gJ (k:=1) a6;have b5:=O c6;have l:=O L;clear c6 a6 L
 try simp only[V]
 refine gP rfl rfl (fun B g=>?_);go_simp;refine(qA false t ((i.den:Nat):Int) j.num b a' m n' d c' w4 (by exact((a0.d.go r).go f).go l) (by exact((a1.n.go r).go f).go l) (by rw[b7,aB];have:=b6.out;omega)).mono ?_;rintro e w5 ⟨s5,a5,n5,c5,rfl,S,N,_⟩;refine g _ _ N ?_;clear g B;rw[b7]at S
 have d8:s5=false:=by rw[S.1];exact aw (Int.not_lt.2 (dP _))
 subst d8;have H:=O (b5.go N);have a2:=O S;have E:=O (l.trans (N.mono l.size));clear S N b5 l
 try simp only[V]
 refine gP rfl rfl (fun B g=>?_);go_simp;refine(sD C (i.num*((j.den:Nat):Int)) (i.den*j.num.natAbs) z a5 A n5 c4 c5 w5 (by exact H) (by exact a2) d7 (by have:=mW a2;rw[aB]at this;have:=b6.out;omega)).mono ?_;rintro e w6 ⟨C,z,A,c4,b4,W,d4,rfl,T,Q,a7,f4,g4⟩;refine g _ _ a7 ?_;clear g B;rw[d5]at T Q;have b1:=T.2.2;have b0:=Q.2.2;have b3:=E.size;have b2:=f.size;have b8:=O (show QL w6 w6 C z A c4 b4 W d4 R from⟨T,Q⟩);have F:=O (E.trans (a7.mono b3));have F4:=O f4;have G4:=O g4;clear T Q a7 f4 g4 H a2
 try simp only[V]
 refine gP rfl rfl (fun B g=>?_);go_simp;refine(zF C false z b4 A W c4 d4 w6 b1 b0).mono ?_;rintro e w7 ⟨rfl,P⟩;refine g _ _ P ?_;clear g B;have M:Below X X w7:=F.trans (P.mono F.size);have u:Below w1 w1 w7:=f.trans (M.mono b2);have q:=(u.block _ l2).trans J2;have d6:=O (b8.go P);have a8:=O u;clear P M u b8
 try simp only[V]
 iterate 2
  refine gU (v:=?_) rfl (fun _ _ _ h=>h) (by rfl) ?_ ?_;rotate_left
  .intro y x
   skip;go_simp
   with_reducible rfl
  try simp only[V]
 refine iu rfl ?_;obtain⟨d0,d1,d2,d3⟩:=gL q;have f0:=gD q 0;have f1:=gD q 1;have f2:=gD q 2;have f3:=gD q 3;have H2:=O q;clear q
 go_wp2_with fail
 have a9:=kl (s':=C) (a':=z) (n':=A) (c':=c4) (t':=false) (b':=b4) (m':=W) (d':=d4) H2;obtain⟨k0,d9,e4,k3⟩:=gL a9;refine ar (v:=.tuple #[.agg #[C,Z z A c4,false,Z b4 W d4],oZ]) ?_ rfl ?_
 .simp[results,results256,go_sem,k0,d9,e4,k3]
 .have o4:mx w (w+3) z A:=mx.ofFresh (F4.mono (by omega))
  have o5:mx w (w+3) b4 W:=mx.ofFresh (G4.mono (by omega));exact⟨C,z,A,c4,b4,W,d4,rfl,d6.put o4 o5 (show w.heap.size<=w.heap.size+2 by omega) (by omega),iR (r.trans (a8.mono (by omega))) (by omega),F4.mono (by omega),G4.mono (by omega)⟩
def Cb(q l k1 D s t a b a' b' n m c d n' m' c' d')(w:World)(h1:QL w w s a n c b m d q)(h2:QL w w t a' n' c' b' m' d' l)(z1:Sz k1 q)(z2:Sz D l)(hk:k1+D<=599)(hp:0<l.num):
 Calls prog 228 #[.agg #[s,Z a n c,false,Z b m d],.agg #[t,Z a' n' c',false,Z b' m' d']] w (Bh w (q/l)):=by
 obtain⟨W,X,i2⟩:=jh w (.cells #[s,Z a n c,false,Z b m d] 243) (.cells #[t,Z a' n' c',false,Z b' m' d'] 243) (.cells #[false,oN,false,oN] 243);have u:=oF w (.cells #[s,Z a n c,false,Z b m d] 243) (.cells #[t,Z a' n' c',false,Z b' m' d'] 243) (.cells #[false,oN,false,oN] 243);have P:=O i2;have C:=O u;have I0:=O W;have I1:=O X;have L:=O (M9 q l k1 D s t a b a' b' n m c d n' m' c' d' _ (h1.go u) (h2.go u) z1 z2 hk hp);clear W X i2 u h1 h2 z1 z2;generalize q/l=R at*
 go_enter func228,ntmps228
 go_wp2_with fail
 refine L.mono ?_;rintro e g ⟨r,h,j,c4,b4,i,o,rfl,B,k,S,T⟩
 have a2:w.heap.size+3<=g.heap.size:=by have:=k.size;simp at this;omega
 have f:=(k.block (w+2) (by simp)).trans P;have A:Below w w g:=C.trans (k.mono C.size);have E:kS (w+3) h j:=S.mono (by simp);have F:kS (w+3) b4 i:=T.mono (by simp);have N:=O B;have Q:=O f;have M:=O A;have H:=O E;have K:=O F;clear B k S T f A E F I0 I1 P C L
 go_upto_region 2 with fail
 have z:=(TH g g).alloc (aa _) (.cells #[r,Z h j c4,false,Z b4 i o] 243);refine jp (fun wx=>pO wx g r h j c4 false b4 i o/\Below g g wx) ⟨TL g _,z⟩ ?_;clear z;rintro w2 ⟨h5,p⟩;obtain⟨c0,c1,c2,c3⟩:=gL h5;have f:=(p.block _ (TK Q)).trans Q;obtain⟨d0,d1,d2,d3⟩:=gL f;have f0:=gD f 0;have f1:=gD f 1;have f2:=gD f 2;have f3:=gD f 3;have H2:=O f;have y:=O p;clear f h5 p
 go_wp2_with fail
 have x:=kl (s':=r) (a':=h) (n':=j) (c':=c4) (t':=false) (b':=b4) (m':=i) (d':=o) H2;obtain⟨k0,a0,a1,k3⟩:=gL x;refine ar (v:=.agg #[r,Z h j c4,false,Z b4 i o]) ?_ rfl ?_
 .simp[results,results228,go_sem,k0,a0,a1,k3]
 .have o4:mx w (w+3) h j:=mx.ofFresh H
  have o5:mx w (w+3) b4 i:=mx.ofFresh K;exact⟨r,h,j,c4,b4,i,o,rfl,(N.go y).put o4 o5 (show w.heap.size<=w.heap.size+2 by omega) (by omega),iR (M.trans (y.mono (by omega))) (by omega)⟩
def Na(x){y}(c:0<y):(mkRat x y).num.natAbs<=x.natAbs/\(mkRat x y).den<=y:=by
 obtain⟨h1,h2⟩:=zA x (d:=y) (by omega);have e:0<Nat.gcd x.natAbs y:=eM _ c;rw[h1,h2];refine⟨?_,dp _ _⟩;obtain⟨k,b⟩:=fG x.natAbs y;have a:((Nat.gcd x.natAbs y:Nat):Int)∣ x:=Int.ofNat_dvd_left.2 ⟨k,b⟩;rw[Int.natAbs_ediv_of_dvd a,aB];exact dp _ _
def Sz.mk{x y k}(a:0<y)(h1:x.natAbs<1000000000^k)(h2:y<1000000000^k):Sz k (mkRat x y):=by
 obtain⟨b,c⟩:=Na x a;exact⟨by omega,by omega⟩
def Sz.mul{k l r s}(h1:Sz k r)(h2:Sz l s):Sz (k+l) (r*s):=by
 obtain⟨a,b⟩:=M0 h1 h2;rw[<- GU];exact Sz.mk (dZ (bq r.den_nz) (bq s.den_nz)) a b
def zH{a b}(h:a<=b):(1000000000:Nat)^a<=1000000000^b:=dA (by omega) h
def Sz.mono{k l r}(h:Sz k r)(a:k<=l):Sz l r:=⟨ab h.1 (zH a),ab h.2 (zH a)⟩
def Sz.add{k l r s}(h1:Sz k r)(h2:Sz l s):Sz (k+l+1) (r+s):=by
 obtain⟨a,b⟩:=T8 h1 h2;rw[<- T7];exact Sz.mk (dZ (bq r.den_nz) (bq s.den_nz)) a (ab b (zH (by omega)))
def Sz.div{k l r s}(h1:Sz k r)(h2:Sz l s)(c:0<s.num):Sz (k+l) (r/s):=by
 obtain⟨a,b⟩:=M8 h1 h2;rw[Jq r c];exact Sz.mk (dZ (bq r.den_nz) (by omega)) a b
def tS(L:Int):Rat:=mkRat (L*L) 1000000000000
def xe(L:Int):Nat->Rat
 |0=>mkRat 1 1
 |k+1=>xe L k*tS L
def EK(L:Int):Nat->Rat
 |0=>mkRat 1 1
 |k+1=>EK L k/tS L
def kN(L n:Int):Rat:=if 0<=n then xe L n.toNat else EK L (-n).toNat
def QX{x y}(c:0<y)(h:0<x):0<(mkRat x y).num:=by
 obtain⟨h1,_⟩:=zA x (d:=y) (by omega);rw[h1];have g:0<Nat.gcd x.natAbs y:=eM _ c;obtain⟨k,a⟩:=fG x.natAbs y
 have b:x=((Nat.gcd x.natAbs y:Nat):Int)*(k:Int):=by rw[<- bW,<- a];omega
 have f:0<k:=by
  obtain e|e:=cM k
  .rw[e,eV]at a;omega
  .exact e
 generalize Nat.gcd x.natAbs y=Gq0 at*;rw[b,Int.mul_ediv_cancel_left _ (by omega)];omega
def Nb{L}(h:0<L):0<(tS L).num:=QX (by omega) (Int.mul_pos h h)
def Jr{L}(h:0<L)(h2:L<=2500000):Sz 2 (tS L):=by
 refine Sz.mk (by omega) ?_ (by omega);have h3:L*L<=2500000*2500000:=eI h2 h2 (by omega) (by omega);have a:0<=L*L:=eH (by omega) (by omega);omega
def Dg{L}(h:0<L)(h2:L<=2500000):∀k,Sz (2*k+1) (xe L k)
 |0=>Sz.mk (by omega) (by decide) (by decide)
 |k+1=>((Dg h h2 k).mul (Jr h h2)).mono (by omega)
def Dh{L}(h:0<L)(h2:L<=2500000):∀k,Sz (2*k+1) (EK L k)
 |0=>Sz.mk (by omega) (by decide) (by decide)
 |k+1=>((Dh h h2 k).div (Jr h h2) (Nb h)).mono (by omega)
def QY{N w a n c zs g s a' n' c' t b' m' d'}(h:SL N w a n c zs)(l:pO w g s a' n' c' t b' m' d'):∀b off,a=some ⟨b,off,none⟩->0<n->b≠g:=by
 rintro b off e f rfl;obtain⟨b1,i,d,_,j⟩:=h.at f;rw[e]at d;cases d;have h0:=j 0 f;rw[gA l]at h0
 match hoff:off+0,h0 with
 |0,h0=>simp at h0
 |1,h0=>simp at h0
 |2,h0=>simp at h0
 |3,h0=>simp at h0
 |k+4,h0=>simp at h0
def Js{w:World}{s a n c z g s' a' n' c' t' b' m' d' u v u2 v2}(h:LG w w s a n c z)(d:pO w g s' a' n' c' t' b' m' d'):
 LG ((((w.setCell (J g) u).setCell ⟨g,1,none⟩ v).setCell ⟨g,2,none⟩ u2).setCell ⟨g,3,none⟩ v2).heap.size ((((w.setCell (J g) u).setCell ⟨g,1,none⟩ v).setCell ⟨g,2,none⟩ u2).setCell ⟨g,3,none⟩ v2) s a n c z:=by
 have b:=QY h.2.1 d;have:=(((h.setCell (J g) u b).setCell ⟨g,1,none⟩ v b).setCell ⟨g,2,none⟩ u2 b).setCell ⟨g,3,none⟩ v2 b;simpa using this
def QL.putG{w:World}{s a n c b m d r g s' a' n' c' t' b' m' d' u v u2 v2}(h:QL w w s a n c b m d r)(e:pO w g s' a' n' c' t' b' m' d'):
 QL ((((w.setCell (J g) u).setCell ⟨g,1,none⟩ v).setCell ⟨g,2,none⟩ u2).setCell ⟨g,3,none⟩ v2).heap.size ((((w.setCell (J g) u).setCell ⟨g,1,none⟩ v).setCell ⟨g,2,none⟩ u2).setCell ⟨g,3,none⟩ v2) s a n c b m d r:=⟨Js h.n e,Js h.d e⟩
def Nc{w g k s a n c t b m d u v u2 v2}(f:g≠k)(h:pO w g s a n c t b m d):
 pO ((((w.setCell (J k) u).setCell ⟨k,1,none⟩ v).setCell ⟨k,2,none⟩ u2).setCell ⟨k,3,none⟩ v2) g s a n c t b m d:=
 (TI _ _ _ _ (fun e=>f e)).trans ((TI _ _ _ _ (fun e=>f e)).trans ((TI _ _ _ _ (fun e=>f e)).trans ((TI _ _ _ _ (fun e=>f e)).trans h)))
def kG(w:World)(g:Nat)(r:Rat):Prop:=∃s a n c b m d,pO w g s a n c false b m d/\QL w w s a n c b m d r
def kG.lt{w g r}(h:kG w g r):g<w.heap.size:=by obtain⟨s,a,n,c,b,m,d,h,_⟩:=h;exact TK h
def kG.go{w w' g r}(h:kG w g r)(e:Below w w w'):kG w' g r:=by
 obtain⟨s,a,n,c,b,m,d,h1,h2⟩:=h;exact⟨s,a,n,c,b,m,d,(e.block _ (TK h1)).trans h1,h2.go e⟩
def kG.new{w:World}{s a n c b m d r}(h:QL w w s a n c b m d r):kG (w.alloc (.cells #[s,Z a n c,false,Z b m d] 243)) w r:=
 ⟨s,a,n,c,b,m,d,TL w _,h.go ((TH _ _).alloc (aa _) _)⟩
def kG.put{w g r q s a n c b m d}(h:kG w g q)(e:QL w w s a n c b m d r):
 kG ((((w.setCell (J g) (.bool s)).setCell ⟨g,1,none⟩ (.slice a n c)).setCell ⟨g,2,none⟩ (.bool false)).setCell ⟨g,3,none⟩ (.slice b m d)) g r:=by
 obtain⟨s',a',n',c',b',m',d',h1,h2⟩:=h;exact⟨s,a,n,c,b,m,d,kl h1,e.putG h1⟩
def kG.other{w g k r q u v u2 v2}(h:kG w g r)(f:kG w k q)(e:g≠k):
 kG ((((w.setCell (J k) u).setCell ⟨k,1,none⟩ v).setCell ⟨k,2,none⟩ u2).setCell ⟨k,3,none⟩ v2) g r:=by
 obtain⟨s',a',n',c',b',m',d',h1,h2⟩:=h;obtain⟨s,a,n,c,b,m,d,k1,i⟩:=f;exact⟨s',a',n',c',b',m',d',Nc e h1,h2.putG k1⟩
def zI(L n:Int)(k:Nat):Rat:=if 0<=n then xe L n.toNat else EK L k
def KF{L n}(h:¬0<=n):zI L n 0=xe L 0:=by unfold zI;rw[aj h];rfl
def uA(L n:Int)(w)(h1:0<L)(h2:L<=2500000)(n1: -4<=n)(n2:n<=4):
 Calls prog 191 #[L,n] w (Bh w (kN L n)):=by
 have d9:L*L<=2500000*2500000:=eI h2 h2 (by omega) (by omega);have d8:0<=L*L:=eH (by omega) (by omega);have d:=(TH w w).alloc (aa _) (.cells #[false,oN,false,oN] 243);have hq:pO (w.alloc (.cells #[false,oN,false,oN] 243)) w false none 0 0 false none 0 0:=TL w _;have u:=O d;have Hq:=O hq;clear d hq
 go_enter func191,ntmps191
 go_upto_region 1 with fail
 refine jp (fun p=>pO p w false none 0 0 false none 0 0/\Below w w p) ⟨Hq,u⟩ ?_;clear Hq u;rintro w0 ⟨j,b2⟩;have l0:=TK j;have J0:=O j;have c8:=O b2;clear j b2
 go_wp2_with fail
 refine(pQ (L*L) 1000000000000 _ (by omega) (by omega) (by omega) (by omega)).mono ?_;rintro e N ⟨s1,a1,m1,c1,b1,k1,d1,rfl,a2,T⟩;rw[show mkRat (L*L) 1000000000000=tS L from rfl]at a2;have m:=kG.new a2;have d:=(TH N N).alloc (aa _) (.cells #[s1,Z a1 m1 c1,false,Z b1 k1 d1] 243);have a:=O m;have u:=O (T.trans (d.mono T.size));have l1:=T.size;clear a2 m d T
 go_upto_region 2 with fail
 refine jp (fun p=>kG p N (tS L)/\Below w0 w0 p/\N.heap.size<p.heap.size) ⟨a,u,a.lt⟩ ?_;clear a u;rintro w2 ⟨h,b4,d4⟩;have a:=O h;have Q:=O b4;clear h b4
 go_wp2_with fail
 refine(pQ 1 1 _ (by omega) (by omega) (by omega) (by omega)).mono ?_;rintro e w3 ⟨s3,a3,m3,c3,b3,k3,d3,rfl,a4,W⟩;rw[show mkRat 1 1=xe L 0 from rfl]at a4;have d:=(TH w3 w3).alloc (aa _) (.cells #[s3,Z a3 m3 c3,false,Z b3 k3 d3] 243);have f:=kG.new a4;have l3:=W.size;have r:=W.trans (d.mono W.size);have t:=O f;have P:=O (a.go r);have R:=O (Q.trans (r.mono Q.size));have d2:=Q.size;clear a4 d f W r a Q
 go_upto_region 3 with fail
 refine jp (fun p=>kG p N (tS L)/\kG p w3 (xe L 0)/\Below w0 w0 p) ⟨P,t,R⟩ ?_;clear P t R;rintro w4 ⟨h,l,b8⟩;have a:=O h;have t:=O l;have a9:=O b8;clear h l b8
 have hg:w3.heap.size≠N.heap.size:=by omega
 have c2:w0.heap.size<=w3.heap.size:=by omega
 have Hg:=O hg;have b0:=O c2;generalize N.heap.size=g5 at*;generalize w3.heap.size=g6 at*;clear l1 l3 d2 d4 hg c2
 go_wp2_with fail
 go_loopw [7] (fun E wr=>∃k:Nat,E=.int .i64 (k:Int)/\k<=n.toNat/\kG wr g5 (tS L)/\kG wr g6 (xe L k)/\Below w0 w0 wr) (fun E _=>n.toNat-(intOf E).toNat)
 case atStart=>exact⟨0,rfl,aA _,a,t,a9⟩
 case round=>
  obtain⟨k,rfl,hk,h,l,b9⟩:=hrel;have a0:=O b9;clear b9
  by_cases hlt:(k:Int) <n
  .obtain⟨s5,a5,m5,c5,b5,k5,d5,K,f5⟩:=h
   obtain⟨M,z,H,B,A,F,C,o,q⟩:=l;obtain⟨x0,x1,x2,x3⟩:=gL K;obtain⟨y0,y1,y2,y3⟩:=gL o;have Q5:=O K;have y:=O o;have F5:=O f5;have x:=O q;clear K o f5 q
   go_wp2_with fail
   refine(nM (xe L k) (tS L) (2*k+1) 2 M s5 z A a5 b5 H F B C m5 k5 c5 d5 _ (by exact x) (by exact F5) (Dg h1 h2 k) (Jr h1 h2) (by omega)).mono ?_;rintro e wa ⟨s7,a7,m7,c7,b7,k7,d7,rfl,D,i⟩;rw[show xe L k*tS L=xe L (k+1)from rfl]at D;have c:=(i.block _ (TK y)).trans y;obtain⟨y0,y1,y2,y3⟩:=gL c;have e0:=gD c 0;have e1:=gD c 1;have e2:=gD c 2;have e3:=gD c 3;have F7:=O D;have b:=O i;clear D i c x0 x1 x2 x3
   go_wp2_with fail
   go_roundw
   case rel=>
    have f:kG wr g6 (xe L k):=⟨_,_,_,_,_,_,_,y,x⟩;have m:kG wr g5 (tS L):=⟨_,_,_,_,_,_,_,Q5,F5⟩;exact⟨k+1,by go_num,by omega,(m.go b).other (f.go b) Hg.symm,(f.go b).put F7,iR (a0.trans (b.mono a0.size)) b0⟩
   case measure=>simp[intOf];omega
  .have c4:xe L k=zI L n 0:=by
    by_cases h0:0<=n
    .unfold zI
     rw[aq h0,show n.toNat=k by omega]
    .have d0:k=0:=by omega
     rw[d0,KF h0]
   rw[c4]at l;have m:=O h;have f:=O l;clear h l c4 a t a9
   go_wp2_with fail
   go_loopw [8] (fun E wz=>∃k:Nat,E=.int .i64 (-(k:Int))/\k<=(-n).toNat/\kG wz g5 (tS L)/\kG wz g6 (zI L n k)/\Below w0 w0 wz) (fun E _=>(-n).toNat-(intOf E).natAbs)
   case atStart=>exact⟨0,rfl,aA _,m,f,a0⟩
   case round=>
    obtain⟨g,rfl,e5,h,l,c0⟩:=hrel;have S:=O c0;clear c0
    by_cases e4:n< -(g:Int)
    .have s:¬0<=n:=by omega
     obtain⟨s5,a5,m5,c5,b5,k5,d5,K,f5⟩:=h;obtain⟨M,z,H,B,A,F,C,o,q⟩:=l;obtain⟨x0,x1,x2,x3⟩:=gL K;obtain⟨y0,y1,y2,y3⟩:=gL o;rw[show zI L n g=EK L g by unfold zI;rw[aj s]]at q;have c9:=O (show zI L n (g+1)=EK L g/tS L by unfold zI;rw[aj s];rfl);have Q5:=O K;have y:=O o;have F5:=O f5;have x:=O q;clear K o f5 q s m f
     go_wp2_with fail
     refine(Cb (EK L g) (tS L) (2*g+1) 2 M s5 z A a5 b5 H F B C m5 k5 c5 d5 _ (by exact x) (by exact F5) (Dh h1 h2 g) (Jr h1 h2) (by omega) (Nb h1)).mono ?_;rintro e wa ⟨s7,a7,m7,c7,b7,k7,d7,rfl,D,i⟩;rw[<- c9]at D;have c:=(i.block _ (TK y)).trans y;obtain⟨y0,y1,y2,y3⟩:=gL c;have e0:=gD c 0;have e1:=gD c 1;have e2:=gD c 2;have e3:=gD c 3;have F7:=O D;have b:=O i;clear D i c x0 x1 x2 x3
     go_wp2_with fail
     go_roundw
     case rel=>
      have f:kG wr g6 (EK L g):=⟨_,_,_,_,_,_,_,y,x⟩;have m:kG wr g5 (tS L):=⟨_,_,_,_,_,_,_,Q5,F5⟩;exact⟨g+1,by go_num,by omega,(m.go b).other (f.go b) Hg.symm,(f.go b).put F7,iR (S.trans (b.mono S.size)) b0⟩
     case measure=>simp[intOf];omega
    .have X:zI L n g=kN L n:=by
      by_cases h0:0<=n
      .unfold zI kN;rw[aq h0,aq h0]
      .rw[show g=(-n).toNat by omega];rfl
     rw[X]at l;obtain⟨M,z,H,B,A,F,C,o,q⟩:=l;obtain⟨y0,y1,y2,y3⟩:=gL o;have j:=(S.block _ l0).trans J0;obtain⟨x0,x1,x2,x3⟩:=gL j;have e0:=gD j 0;have e1:=gD j 1;have e2:=gD j 2;have e3:=gD j 3;have J1:=O j;have x:=O q;clear j o q X h m f
     go_wp2_with fail
     have a8:=kl (s':=M) (a':=z) (n':=H) (c':=B) (t':=false) (b':=A) (m':=F) (d':=C) J1;obtain⟨z0,z1,z2,z3⟩:=gL a8;refine ar (v:=.agg #[M,Z z H B,false,Z A F C]) ?_ rfl ?_
     .simp[results,results191,go_sem,z0,z1,z2,z3]
     .exact⟨M,z,H,B,A,F,C,rfl,x.putG J1,iR (c8.trans (S.mono (by omega))) (aa _)⟩
structure jQ where
 nm:ByteArray
 form:Int
 c0:Int
 c1:Int
 c2:Int
 c3:Int
 c4:Int
 c5:Int
 lo:Int
 hi:Int
def jQ.cells(g:jQ):List Value:=[.string g.nm,.int .i64 g.form,.int .i64 g.c0,.int .i64 g.c1,.int .i64 g.c2,.int .i64 g.c3,.int .i64 g.c4,.int .i64 g.c5,.int .i64 g.lo,.int .i64 g.hi]
def jQ.co(g:jQ):Nat->Int
 |0=>g.c0
 |1=>g.c1
 |2=>g.c2
 |3=>g.c3
 |4=>g.c4
 |_=>g.c5
def jQ.In(g:jQ):Prop:=∀i,-1000000000000<=g.co i/\g.co i<=1000000000000
abbrev Nd(w:World)(b:Nat)(g:jQ):Prop:=w.heap[b]? =some (.cells #[g.nm,g.form,g.c0,g.c1,g.c2,g.c3,g.c4,g.c5,g.lo,g.hi] 168 (0,0))
def EL{w b g}(h:Nd w b g){i}(hi:i<6):w.cell? ⟨b,2+i,none⟩=some (.int .i64 (g.co i)):=by
 rw[gA h]
 match i,hi with
 |0,_=>rfl
 |1,_=>rfl
 |2,_=>rfl
 |3,_=>rfl
 |4,_=>rfl
 |5,_=>rfl
 |i+6,hi=>omega
def pT(g:jQ)(i:Nat):Rat:=mkRat (g.co i) 1000000000
def tf{g}(h:g.In)(i):Sz 2 (pT g i):=by
 have:=h i;exact Sz.mk (by omega) (by omega) (by omega)
def qb{L n}(h:0<L)(h2:L<=2500000)(a: -4<=n)(b:n<=4):Sz 9 (kN L n):=by
 unfold kN;split
 .exact(Dg h h2 _).mono (by omega)
 .exact(Dh h h2 _).mono (by omega)
def mr(g:jQ)(L:Int):Nat->Rat
 |0=>mkRat 0 1
 |i+1=>mr g L i+pT g i*kN L (-(i:Int))
def uB{g}(a:g.In){L}(h:0<L)(h2:L<=2500000):∀i,i<=4->Sz (12*i+1) (mr g L i)
 |0,_=>Sz.mk (by omega) (by decide) (by decide)
 |i+1,hi=>((uB a h h2 i (by omega)).add ((tf a i).mul (qb h h2 (by omega) (by omega)))).mono (by omega)
def Cc(g)(L:Int)(w)(hg:g.In)(h1:0<L)(h2:L<=2500000):
 Calls prog 154 #[.agg #[g.nm,g.form,g.c0,g.c1,g.c2,g.c3,g.c4,g.c5,g.lo,g.hi],L] w (Bh w (mr g L 3)):=by
 obtain⟨i0,i1⟩:=iN w (.cells #[g.nm,g.form,g.c0,g.c1,g.c2,g.c3,g.c4,g.c5,g.lo,g.hi] 168) (.cells #[false,oN,false,oN] 243);have o:=iH (w:=w) (.cells #[g.nm,g.form,g.c0,g.c1,g.c2,g.c3,g.c4,g.c5,g.lo,g.hi] 168) (.cells #[false,oN,false,oN] 243);have I0:=O i0;have I1:=O i1;have l:=O o;clear i0 i1 o
 go_enter func154,ntmps154
 go_upto_region 1 with fail
 refine jp (fun A=>Nd A w g/\pO A (w+1) false none 0 0 false none 0 0/\Below w w A) ⟨I0,I1,l⟩ ?_;clear I0 I1 l;rintro w0 ⟨s,d,a3⟩;have lg:=TK s;have l0:=TK d;have JG:=O s;have J0:=O d;have d0:=O a3;clear s d a3
 go_wp2_with fail
 refine(pQ 0 1 _ (by omega) (by omega) (by omega) (by omega)).mono ?_;rintro e w1 ⟨s1,a1,m1,c1,b1,k1,d1,rfl,K,u⟩;rw[show mkRat 0 1=mr g L 0 from rfl]at K;have E:=kG.new K;have o:=(TH w1 w1).alloc (aa _) (.cells #[s1,Z a1 m1 c1,false,Z b1 k1 d1] 243);have l1:=u.size;have j:=O E;have l:=O (u.trans (o.mono u.size));clear K E o u
 go_upto_region 2 with fail
 refine jp (fun A=>kG A w1 (mr g L 0)/\Below w0 w0 A) ⟨j,l⟩ ?_;clear j l;rintro w2 ⟨N,a4⟩;have j:=O N;have a0:=O a4;clear N a4;have d4:=O l1;generalize w1.heap.size=g5 at*;clear l1
 go_wp2_with fail
 go_loopw [6] (fun iv wr=>∃k:Nat,iv=.int .i64 (k:Int)/\k<=3/\kG wr g5 (mr g L k)/\Below w0 w0 wr) (fun iv _=>3-(intOf iv).toNat)
 case atStart=>exact⟨0,rfl,aA _,j,a0⟩
 case round=>
  obtain⟨k,rfl,hk,N,b0⟩:=hrel;have m:=O b0;have E:=O N;obtain⟨s5,P,W,c5,Q,T,R,X,c⟩:=N;obtain⟨x0,x1,x2,x3⟩:=gL X;have l5:=TK X;have Q5:=O X;have F5:=O c;clear b0 X c j a0
  by_cases hlt:k<3
  .have s:=(m.block _ lg).trans JG
   have f0:=TK s;have y2:=EL s (i:=k) (by omega);have b2:=hg k;generalize hcc:g.co k=ck at*;have d2:=O hcc
   have f1:(k:Int) <6:=by omega
   clear s hcc
   go_wp2_with fail
   refine gS 12 [(0,true),(1,true),(2,true),(3,true),(4,true),(6,true),(7,true),(8,true),(5,false),(9,false),(10,false),(11,false)] (by kernel_rfl) (by kernel_rfl) ?_
   iterate 8
    refine gU (v:=?_) rfl (fun _ _ _ h=>h) (by rfl) ?_ ?_;rotate_left
    .intro y M
     have z0:=(M.cell (p:=J g5) l5).trans x0;have z1:=(M.cell (p:=⟨g5,1,none⟩) l5).trans x1;have z2:=(M.cell (p:=⟨g5,2,none⟩) l5).trans x2;have z3:=(M.cell (p:=⟨g5,3,none⟩) l5).trans x3;have z4:=(M.cell (p:=⟨w.heap.size,2+k,none⟩) f0).trans y2;go_simp
     with_reducible rfl
    try simp only[V]
   clear x0 x1 x2 x3 y2;have e8:=uB hg h1 h2 k (by omega);have b4:=qb h1 h2 (n:= -(k:Int)) (by omega) (by omega);have b3:=tf hg k;have e4:=O (show mr g L (k+1)=mr g L k+pT g k*kN L (-(k:Int))from rfl);have d3:=O (show mkRat ck 1000000000=pT g k by rw[<- d2];rfl);generalize hrn:mr g L (k+1)=rn at*;have e6:=O hrn;clear hrn;generalize mr g L k=r5 at*;generalize hpk:kN L (-(k:Int))=pk at*;have e5:=O hpk;clear hpk;generalize pT g k=rc at*
   have e9:IntKind.i64.wrap (-(k:Int))= -(k:Int):=by simp[IntKind.wrap,IntKind.bits,IntKind.signed];omega
   try simp only[e9]
   refine gP rfl rfl (fun r a=>?_);go_simp;refine(pQ ck 1000000000 _ (by have:=b2;omega) (by have:=b2;omega) (by omega) (by omega)).mono ?_;rintro e wa ⟨s6,a6,m6,c6,b6,k6,d6,rfl,z,F⟩;refine a _ _ F ?_;clear a r
   try simp only[V]
   rw[d3]at z;have f:Below wr wr wa:=gJ (k:=1) F;have c:=F5.go f;clear F;have B:=O f;have F6:=O z;have G5:=O c;clear f z c;refine gP rfl rfl (fun r a=>?_);go_simp;refine(uA L (-(k:Int)) _ h1 h2 (by omega) (by omega)).mono ?_;rintro e wb ⟨s7,a7,m7,c7,b7,k7,d7,rfl,f7,q⟩;rw[e5]at f7;refine a _ _ q ?_;clear a r
   try simp only[V]
   have c:=G5.go q;have z:=F6.go q;have b:=B.trans (q.mono B.size);have C:=O b;have G6:=O z;have G7:=O f7;have K5:=O c;clear b z f7 c q B F6 G5;refine gP rfl rfl (fun r a=>?_);go_simp;refine(nM rc pk 2 9 s6 s7 a6 b6 a7 b7 m6 k6 c6 d6 m7 k7 c7 d7 _ (by exact G6) (by exact G7) b3 b4 (by omega)).mono ?_;rintro e wc ⟨s8,a8,m8,c8,b8,k8,d8,rfl,f8,x⟩;refine a _ _ x ?_;clear a r
   try simp only[V]
   have c:=K5.go x;have b:=C.trans (x.mono C.size);have D:=O b;have G8:=O f8;have L5:=O c;clear b f8 c x C G6 G7 K5;refine gP rfl rfl (fun r a=>?_);go_simp;refine(tR r5 (rc*pk) (12*k+1) 11 s5 s8 P Q a8 b8 W T c5 R m8 k8 c8 d8 _ (by exact L5) (by exact G8) e8 (b3.mul b4) (by omega)).mono ?_;rintro e wd ⟨s9,a9,m9,c9,b9,k9,d9,rfl,f9,H⟩;refine a _ _ H ?_;clear a r
   try simp only[V]
   rw[<- e4]at f9;have b:=D.trans (H.mono D.size);have t:=(b.block _ l5).trans Q5;obtain⟨x0,x1,x2,x3⟩:=gL t;have e0:=gD t 0;have e1:=gD t 1;have e2:=gD t 2;have e3:=gD t 3;have P5:=O t;have F9:=O f9;have a2:=O b;clear t f9 b H D G8 L5;refine iu rfl ?_
   go_wp2_with fail
   go_roundw
   case rel=>
    have E:kG wr g5 r5:=⟨_,_,_,_,_,_,_,Q5,F5⟩;exact⟨k+1,by go_num,by omega,by rw[e6];exact(E.go a2).put F9,iR (m.trans (a2.mono m.size)) d4⟩
   case measure=>simp[intOf];omega
  .have e7:k=3:=by omega
   subst e7;have d:=(m.block _ l0).trans J0;obtain⟨y0,y1,y2,y3⟩:=gL d;have e0:=gD d 0;have e1:=gD d 1;have e2:=gD d 2;have e3:=gD d 3;have J1:=O d;clear d
   go_wp2_with fail
   have S:=kl (s':=s5) (a':=P) (n':=W) (c':=c5) (t':=false) (b':=Q) (m':=T) (d':=R) J1;obtain⟨z0,z1,z2,z3⟩:=gL S;refine ar (v:=.agg #[s5,Z P W c5,false,Z Q T R]) ?_ rfl ?_
   .simp[results,results154,go_sem,z0,z1,z2,z3]
   .exact⟨s5,P,W,c5,Q,T,R,rfl,F5.putG J1,iR (d0.trans (m.mono (by omega))) (bY _)⟩
end Go.Proofs.YtgohdcccfkjooaaGreatDoor
