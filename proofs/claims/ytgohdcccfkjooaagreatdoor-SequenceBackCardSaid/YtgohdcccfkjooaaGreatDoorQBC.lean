import Derived.Test.YtgohdcccfkjooaaGreatDoorQBA
import Derived.Test.YtgohdcccfkjooaaGreatDoorQAY
namespace Go.Proofs.YtgohdcccfkjooaaGreatDoor
set_option linter.all false
set_option maxRecDepth 100000
set_option maxHeartbeats 3200000
open Go.Proofs.Tryz Go.RowKit
def MS(l x a b m d n c w)(h:RR jE 22 (fun b=>b<w.heap.size) w a m d l)(j:m<=1000000)(i:IR w w 3 b n c x.zs)(k:n<=1000000):
 Calls prog 106 #[Z a m d,Z b n c] w (fun e w'=>∃v,e=.returned (.tuple #[v,.bool (lr l x)])/\Below w w w'):=by
 have f:n=x.zs.length/3:=by rw[i.1];omega
 refine(wW l x.zs a b m d n c w h j i k).mono ?_;rintro e w' (⟨h1,rfl,g⟩|⟨l',v,h1,rfl,_,g⟩)
 .exact⟨_,by unfold lr;rw[<- f,h1],g⟩
 .exact⟨_,by unfold lr;rw[<- f,h1],g⟩
def Ks{s k}{ks:List ByteArray}{j}(h:ks[j]? =some k)(h0:rx s (ks.take j)=false):rx s (ks.take (j+1))=(s==k):=wV h h0
def MT{s k}{ks:List ByteArray}{j i}(h:ks[j]? =some k)(b:j<i)(a:(s==k)=true):rx s (ks.take i)=true:=by
 refine yI (k:=j) (x:=k) ?_ a;rw[cZ,aq b];exact h
def Kt(a b:ByteArray):(a.toList==b.toList)=(b==a):=by
 show _=(b.data==a.data)
 rw[bJ,dz,dz];exact⟨fun h=>by rw[BI h],fun h=>by rw[ByteArray.toList_eq,ByteArray.toList_eq,h]⟩
def C4(x f v s k w)(hf:RR jE 22 (fun b=>b<w.heap.size) w s.a s.n s.c x.l)(hn:s.n<=1000000)(hc:RR oB 2 (fun b=>b<w.heap.size) w k.a k.n k.c x.cf)(hk:k.n<=1000000):
 Calls prog 112 #[ry x f v s k] w (iZ w (.bool (jo x.l x.cf))):=by
 have Hf:=O hf;have Hc:=O hc;have r:=hc.1;clear hf hc;obtain⟨sa,m,T⟩:=s;obtain⟨ka,n,kc⟩:=k;simp only at*;have b4:hU (w.alloc (.cells (iw x f v ⟨sa,m,T⟩ ⟨ka,n,kc⟩).toArray 37)) w 37 x f v ⟨sa,m,T⟩ ⟨ka,n,kc⟩:=TL w _;have a9:=(TH w w).alloc (aa _) (.cells (iw x f v ⟨sa,m,T⟩ ⟨ka,n,kc⟩).toArray 37);have a6:=O b4;have a1:=O a9;clear b4 a9;unfold ry
 go_enter func112,ntmps112
 go_upto_region 1 with fail
 refine gI (fun W=>hU W w 37 x f v ⟨sa,m,T⟩ ⟨ka,n,kc⟩/\Below w w W) ⟨a6,a1⟩ ?_;clear a6 a1;rintro w1 ⟨hg,o⟩;have hl:=hg.lt;obtain⟨_,_,_,_,_,_,_,_,P⟩:=hg.cells;have Hg:=O hg;have b7:=O o;clear hg o
 go_wp2_with fail
 go_loopw [3] (fun C wr=>∃i:Nat,i<=n/\C=.int .i64 (i:Int)/\(x.cf.take i).all (lr x.l)=true/\(List.range i).all (od (x.cf.map jd.nm))=true/\Below w1 w1 wr) (fun C _=>n-(intOf C).toNat)
 case atStart=>exact⟨0,by omega,rfl,rfl,rfl,TH _ _⟩
 case round=>
  obtain⟨i,hi,rfl,ho,hd,o⟩:=hrel;have Ho:=O ho;have Hd:=O hd;have X:=O o;have q:=O (I b7 o);clear ho o hd P;obtain⟨_,_,_,_,_,_,_,_,P⟩:=(Hg.go X).cells;have hgl:w.heap.size<wr.heap.size:=ab hl X.size;have C8:=O P
  by_cases b6:i<n
  .have R:=Hc.go ky q
   obtain⟨b1,off,y,cs,rfl,hlt,hy,⟨a2,n2,c2,rfl,S,c5,c0,b5⟩,L⟩:=R.at b6;have b9:=O R;clear R;have x0:=L 0 _ rfl;have x1:=L 1 _ rfl;rw[bE]at x0
   have B:(x.cf.map jd.nm)[i]? =some y.nm:=by rw[aR,hy];rfl
   have b2:od (x.cf.map jd.nm) i=(!rx y.nm ((x.cf.map jd.nm).take i)&&kI y.nm):=by unfold od;rw[B]
   have H:od (x.cf.map jd.nm) i=false->jo x.l x.cf=false:=by
    intro e;unfold jo vV;rw[aU,r,jK b6 e];simp
   have K:lr x.l y=false->jo x.l x.cf=false:=by
    intro e;unfold jo;rw[Ew hy e];rfl
   have Hz:=O (S.ir (fun _ h=>h));have a7:=O b5;have Hy:=O hy;have N:=O b2;have E:=O H;have a0:=O K;have g:=TL wr (.cells #[y.nm,Z a2 n2 c2] 75);have D:=O g;clear g L hy S B b2 H K c0 b5
   go_upto_region 5 with fail
   refine gI (fun W=>W.heap[wr.heap.size]? =some (.cells #[y.nm,Z a2 n2 c2] 75 (0,0))/\Below wr wr W) ⟨D,gY (TH _ _)⟩ ?_;clear D x0 x1 P;rintro w2 ⟨g,b0⟩;have c4:=TK g;have y0:=(gA g 0).trans rfl;have D:=O g;have a4:=O b0;clear g b0;cases hq:kI y.nm
   .have Q:=O hq;clear hq
    go_wp2_with((with_reducible refine(pA y.nm _ a7.out).mono ?_);rintro e w3 ⟨A,o⟩;rw[Q]at A;subst A;have M:=O o;clear o)
    go_ret;exact⟨by rw[E (by rw[N,Q];simp)];rfl,I q (I a4 M)⟩
   .have Q:=O hq;clear hq
    go_wp2_with((with_reducible refine(pA y.nm _ a7.out).mono ?_);rintro e w3 ⟨A,o⟩;rw[Q]at A;subst A;have M:=O o;clear o y0)
    go_loopw [5] (fun C wq=>∃j:Nat,j<=i/\C=.int .i64 (j:Int)/\rx y.nm ((x.cf.map jd.nm).take j)=false/\Below w2 w2 wq) (fun C _=>i-(intOf C).toNat)
    case atStart=>exact⟨0,by omega,rfl,rfl,M⟩
    case round=>
     obtain⟨j,hj,rfl,hm,F⟩:=hrel;have Hm:=O hm;have b8:=O F;have d:=O (I a4 F);have g:=(F.block _ c4).trans D;have y0:=(gA g 0).trans rfl;have y1:=(gA g 1).trans rfl;have d0:=TK g;have P:=(d.cell (p:=⟨w.heap.size,8,none⟩) hgl).trans C8;clear hm F g
     by_cases c1:j<i
     .obtain⟨b3,o3,z,c9,e3,c6,S,⟨a3,n3,c3,rfl,_,_,_,_⟩,L⟩:=(b9.go ky d).at (show j<n by omega)
      cases e3;have z0:=L 0 _ rfl;rw[bE]at z0
      have B:(x.cf.map jd.nm)[j]? =some z.nm:=by rw[aR,S];rfl
      have a8:=O B;clear L S B y1;cases hq:(z.nm.toList==y.nm.toList)
      all_goals
       have Hq:=O ((Kt z.nm y.nm).symm.trans hq)
       go_wp2_with fail
       go_quiet (fail)
       go_wp2_with fail
      .go_roundw
       case rel=>exact⟨j+1,by omega,by go_num,(Ks a8 Hm).trans Hq,gV b8 _⟩
       case measure=>simp[intOf];omega
      .go_ret
       exact⟨by rw[E (by rw[N,MT a8 c1 Hq];rfl)];rfl,I q (gV d _)⟩
     .obtain rfl:j=i:=by omega
      have c7:=(d.cell (p:=⟨w.heap.size,7,none⟩) hgl).trans ((Hg.go X).cells).2.2.2.2.2.2.2.1;cases u:lr x.l y
      all_goals
       have t:=O u;clear u
       go_wp2_with((with_reducible refine(MS x.l y sa a2 m T n2 c2 _ ((Hf.out.go iD q.out).go iD d.out) hn (Hz.out.go d.out) c5).mono ?_);rintro e w5 ⟨v5,A,o⟩;rw[t]at A;subst A;have a5:=O o;clear o)
      .go_ret
       exact⟨by rw[a0 t];rfl,I q (I d a5)⟩
      .go_roundw
       case rel=>exact⟨j+1,by omega,by go_num,(BV Hy Ho).trans t,jl Hd (by rw[N,Hm,Q];rfl),I X (I d a5)⟩
       case measure=>simp[intOf];omega
  .obtain rfl:i=n:=by omega
   have u:jo x.l x.cf=decide ((i:Int)<=4):=by
    unfold jo vV;have h1:=Ho.out;rw[<- r,bf]at h1;rw[h1,aU,r,Hd];simp;omega
   have t:=O u;clear u;go_wp2;go_ret;exact⟨by rw[t];simp<;>rfl,q⟩
def Dl(l a n c w)(h:RR EQ 10 (fun b=>b<w.heap.size) w a n c l)(f:Ch l):
 Calls prog 74 #[Z a n c] w (iZ w (.int .i64 0)):=by
 have H:=O h;have g:=O f;clear h f
 go_enter func74,ntmps74
 go_wp2_with fail
 refine(wm l a n c w H g).mono ?_;rintro e i ⟨rfl,d⟩
 go_wp2_with fail
 go_ret;exact⟨rfl,d⟩
def KO(l a)(n c k:Nat)(g w)(h:RR EQ 10 (fun b=>b<w.heap.size) w a n c l)(o:Ch l)(p:l[k]? =some g):
 Calls prog 151 #[Z a n c,g.nm] w (iZ w (.int .i64 (k:Int))):=by
 have D:n<=40:=by rw[<- h.1];exact o.len
 have C:k<n:=by rw[<- h.1];exact(TG.1 p).1
 have H:=O h;have z:=O o;have s:=O p;clear h o p
 go_enter func151,ntmps151
 go_wp2_with fail
 go_loopw [5] (fun r wr=>∃i:Nat,i<=k/\r=.int .i64 (i:Int)/\Below w w wr) (fun r _=>k-(intOf r).toNat)
 case atStart=>exact⟨0,by omega,rfl,TH _ _⟩
 case round=>
  obtain⟨i,hi,rfl,t⟩:=hrel;have d:=O t;clear t
  have v:i<n:=by omega
  obtain⟨b1,off,y,cs,rfl,hlt,f,⟨rfl,m⟩,q⟩:=(H.go wl d).at v;have A:=q 0 _ rfl;rw[bE]at A
  by_cases u:i<k
  .have j:=z.ne k i g y s f u
   have x:(y.nm.toList==g.nm.toList)=false:=by rw[ak];exact fun e=>j e.symm
   clear j q f m
   go_wp2_with fail
   go_roundw
   case rel=>exact⟨i+1,by omega,by go_num,by first|exact d|exact gV d _⟩
   case measure=>simp[intOf];omega
  .obtain rfl:i=k:=by omega
   have e:y=g:=by have:=f.symm.trans s;simpa using this
   subst e
   have B:(y.nm.toList==y.nm.toList)=true:=by simp
   clear q f m
   go_wp2_with fail
   go_ret;exact⟨rfl,by first|exact d|exact gV d _⟩
def ER(l a)(n c k:Nat)(g w)(h:RR EQ 10 (fun b=>b<w.heap.size) w a n c l)(o:Ch l)(p:l[k]? =some g):
 Calls prog 115 #[Z a n c,g.nm] w (iZ w (.tuple #[.int .i64 (k:Int),oZ])):=by
 have H:=O h;have j:=O o;have q:=O p;clear h o p
 go_enter func115,ntmps115
 go_wp2_with fail
 refine(wm l a n c w H j).mono ?_;rintro e r ⟨rfl,f⟩;have d:=O f;clear f
 go_wp2_with fail
 refine(KO l a n c k g r (H.go wl d) j q).mono ?_;rintro e t ⟨rfl,i⟩;have m:=O (I d i);clear i
 have s:¬((k:Int) <0):=by omega
 go_wp2_with fail
 go_ret2;exact⟨rfl,m⟩
def PF(w:World)(n:Nat)(P:List Int->Prop)(e:Ending)(w':World):Prop:=
 ∃v zs,e=.returned v/\w'.ownsRow w 3 1 v n (zs.map (Value.int .i64))/\P zs/\Below w w w'
def Tryz.infoInt1:(prog.info? 3).map (fun i=>(i.zero,i.size,i.bytes))=some (some (.int .i64 0),1,8):=by kernel_rfl
def Jx(n:Nat)(w)(s:n<=1000):
 Calls prog 76 #[.int .i64 (n:Int)] w (PF w n (fun zs=>zs=List.replicate n 10000000)):=by
 go_enter func76,ntmps76
 go_wp2_with fail
 go_loopw [3,4] (fun v k wr=>∃i:Nat,i<=n/\k=.int .i64 (i:Int)/\wr.ownsRow w 3 1 v i ((List.replicate i (10000000:Int)).map (Value.int .i64))/\Below w w wr) (fun _ k _=>n-(intOf k).toNat)
 case atStart=>exact⟨0,by omega,rfl,World.ownsRow_nil _ _ _ _,TH _ _⟩
 case round=>
  obtain⟨i,hi,rfl,p,j⟩:=hrel;have h:=O p;have l:=O j;have o:=j.size;clear p j
  by_cases r:i<n
  .go_wp2_with(refine je underlying162 Tryz.infoInt1 rfl (by omega) (by omega) rfl (.tmp 10) (.tmp 11) rfl w _ i (List.replicate i 10000000) rfl (h.alloc _) (fun _=>True) _ 1 1 [10000000] rfl (uC rfl rfl rfl) (fun e=>by cases e) (by omega) (by simp;omega) ?_;intro t u b a;have f:=O b;have d:=O a;clear b a)
   have m:=jF l h d (by omega) o;have q:=O m
   have c:List.replicate i (10000000:Int)++[10000000]=List.replicate (i+1) 10000000:=by rw[<- List.replicate_succ']
   have g:=O c;clear m c
   go_roundw
   case rel=>exact⟨i+1,by omega,by go_num,by rw[<- g];exact f,q⟩
   case measure=>simp[intOf];omega
  .obtain rfl:i=n:=by omega
   go_wp2;go_ret;exact⟨_,_,rfl,h,rfl,l⟩
def jZ{ops b e d w}{Q:Exit->Act->World->Prop}{g T x f v s k}(h:hU w g T x f v s k)(i:Region.wanted e (yielded ops d.tmps)=true)(y)(m:e.op=.load 37 y)(o:d.eval y=.pointer (J g))(l:wpList prog ops Q b (d.put e.dst (.agg #[x.nm,x.dist,x.pupil,x.stop,x.prim,Z f.a f.n f.c,Z v.a v.n v.c,Z s.a s.n s.c,Z k.a k.n k.c])) w):wpList prog ops Q (e::b) d w:=
 pV i fun K j=>wp_load_mid 37 y m g 0 o (iw x f v s k) _ h.range underlying37 rfl Tryz.infoLens (j _ _ l)
def sw(x f v s k w)(W:iP (fun b=>b<w.heap.size) w x f v s k):
 Calls prog 73 #[ry x f v s k] w (iZ w (.bool (iI x))):=by
 have m:=O W;clear W;have L:hU (w.alloc (.cells (iw x f v s k).toArray 37)) w 37 x f v s k:=TL w _;have K:=(TH w w).alloc (aa _) (.cells (iw x f v s k).toArray 37);have H:=O L;have F:=O K;clear L K
 have u:∀j,j<6->jO x j=false->iI x=false:=fun j hj h=>jK hj h
 have M:jx x.dist x.fs f.n=jO x 2:=by show _=jx x.dist x.fs (x.fs.length/2);rw[<- qW m.fs]
 have N:kz x.prim x.ws v.n=jO x 3:=by show _=kz x.prim x.ws (x.ws.length/2);rw[<- qW m.ws]
 have t:jO x 0=true->jO x 1=true->jO x 2=true->jO x 3=true->jO x 4=true->jO x 5=true->iI x=true:=by
  intro h0 h1 h2 h3 h4 h5
  show(List.range 6).all (jO x)=true
  simp[List.range,List.range.loop,h0,h1,h2,h3,h4,h5]
 have i:=O u;have r:=O M;have A:=O N;have C:=O t;clear u M N t;unfold ry
 go_enter func73,ntmps73
 go_upto_region 1 with fail
 refine gI (fun wx=>hU wx w 37 x f v s k/\Below w w wx) ⟨H,F⟩ ?_;clear H F;rintro X ⟨E,c⟩;have T:=E.lt;obtain⟨c0,c1,c2,_⟩:=E.cells;have C1:=O c1;have C2:=O c2;have g:=O (m.go c);have q:=O E;have o:=O c;clear E c c1 c2;have a:=TH X X;cases q0:kI x.nm<;>cases q1:bt x.dist 0 1000000000<;>cases q2:bt x.pupil 1 1000000000
 all_goals
  have P:=O q0;have Q:=O q1;have R:=O q2;clear q0 q1 q2
  go_upto_region 3 with(first
   |((with_reducible refine(pA x.nm _ m.out.nm).mono ?_);rintro e w2 ⟨d,c⟩;rw[P]at d;subst d;replace a:=I a c;have c1:=(a.cell (p:=⟨w.heap.size,1,none⟩) T).trans C1;clear c)
   |((with_reducible refine(ix x.dist 0 1000000000 _).mono ?_);rintro e w3 ⟨d,c⟩;rw[Q]at d;subst d;replace a:=I a c;have c2:=(a.cell (p:=⟨w.heap.size,2,none⟩) T).trans C2;clear c)
   |((with_reducible refine(ix x.pupil 1 1000000000 _).mono ?_);rintro e w4 ⟨d,c⟩;rw[R]at d;subst d;replace a:=I a c;clear c))
 iterate 4
  .go_ret
   exact⟨by rw[i 0 (by omega) P];rfl,I o a⟩
 iterate 3
  .go_ret
   exact⟨by rw[i 1 (by omega) (by show pN x.dist x.pupil=false;unfold pN;rw[Q,R];rfl)];rfl,I o a⟩
 have Hs:=O (show jO x 1=true from by show pN x.dist x.pupil=true;unfold pN;rw[Q,R];rfl);clear c0 c1 c2;cases q2:jO x 2
 .have R2:=O q2;clear q2
  go_wp2_with(first
   |(refine it (q.go a) rfl (.tmp 1) rfl rfl ?_)
   |((with_reducible refine(qX x f v s k _ ((g.out.go a).fs.ir (fun _ h=>h)) m.out.fn).mono ?_);rintro e S ⟨d,c⟩;rw[r,R2]at d;subst d;replace a:=I a c;clear c))
  go_ret;exact⟨by rw[i 2 (by omega) R2];rfl,I o a⟩
 have R2:=O q2;clear q2;cases q3:jO x 3
 .have z:=O q3;clear q3
  go_wp2_with(first
   |(refine it (q.go a) rfl (.tmp 1) rfl rfl ?_)
   |(refine jZ (q.go a) (by rfl) (.tmp 1) rfl rfl ?_)
   |((with_reducible refine(qX x f v s k _ ((g.out.go a).fs.ir (fun _ h=>h)) m.out.fn).mono ?_);rintro e S ⟨d,c⟩;rw[r,R2]at d;subst d;replace a:=I a c;clear c)
   |((with_reducible refine(vu x f v s k _ ((g.out.go a).ws.ir (fun _ h=>h)) m.out.wn).mono ?_);rintro e w6 ⟨d,c⟩;rw[A,z]at d;subst d;replace a:=I a c;clear c))
  go_ret;exact⟨by rw[i 3 (by omega) z];rfl,I o a⟩
 have z:=O q3;clear q3;cases q4:iW x.stop x.l
 .have B:=O q4;clear q4
  go_wp2_with(first
   |(refine it (q.go a) rfl (.tmp 1) rfl rfl ?_)
   |(refine jZ (q.go a) (by rfl) (.tmp 1) rfl rfl ?_)
   |((with_reducible refine(qX x f v s k _ ((g.out.go a).fs.ir (fun _ h=>h)) m.out.fn).mono ?_);rintro e S ⟨d,c⟩;rw[r,R2]at d;subst d;replace a:=I a c;clear c)
   |((with_reducible refine(vu x f v s k _ ((g.out.go a).ws.ir (fun _ h=>h)) m.out.wn).mono ?_);rintro e w6 ⟨d,c⟩;rw[A,z]at d;subst d;replace a:=I a c;clear c)
   |((with_reducible refine(uY x f v s k _ (g.out.go a).l m.out.sn).mono ?_);rintro e w7 ⟨d,c⟩;rw[B]at d;subst d;replace a:=I a c;clear c))
  go_ret;exact⟨by rw[i 4 (by omega) B];rfl,I o a⟩
 have B:=O q4;clear q4
 have y:iI x=jo x.l x.cf:=by
  cases q5:jo x.l x.cf
  .exact i 5 (by omega) q5
  .exact C P Hs R2 z B q5
 have D:=O y;clear y
 go_wp2_with(first
  |(refine it (q.go a) rfl (.tmp 1) rfl rfl ?_)
  |(refine jZ (q.go a) (by rfl) (.tmp 1) rfl rfl ?_)
  |((with_reducible refine(qX x f v s k _ ((g.out.go a).fs.ir (fun _ h=>h)) m.out.fn).mono ?_);rintro e S ⟨d,c⟩;rw[r,R2]at d;subst d;replace a:=I a c;clear c)
  |((with_reducible refine(vu x f v s k _ ((g.out.go a).ws.ir (fun _ h=>h)) m.out.wn).mono ?_);rintro e w6 ⟨d,c⟩;rw[A,z]at d;subst d;replace a:=I a c;clear c)
  |((with_reducible refine(uY x f v s k _ (g.out.go a).l m.out.sn).mono ?_);rintro e w7 ⟨d,c⟩;rw[B]at d;subst d;replace a:=I a c;clear c)
  |((with_reducible refine(C4 x f v s k _ (g.out.go a).l m.out.sn (g.out.go a).cf m.out.kn).mono ?_);rintro e w8 ⟨d,c⟩;subst d;replace a:=I a c;clear c))
 go_ret;exact⟨by rw[D];rfl,I o a⟩
def sB(x f v s k w)(m:iP (fun b=>b<w.heap.size) w x f v s k):
 Calls prog 39 #[jG x f v s k] w (iZ w (err (iI x) 120)):=by
 have o:=O m;clear m;have d:hU (w.alloc (.cells (iw x f v s k).toArray 37)) w 37 x f v s k:=TL w _;have c:=(TH w w).alloc (aa _) (.cells (iw x f v s k).toArray 37);have g:=O d;have a:=O c;clear d c;unfold jG
 go_enter func39,ntmps39
 go_upto_region 1 with fail
 refine gI (fun n=>hU n w 37 x f v s k/\Below w w n) ⟨g,a⟩ ?_;clear g a;rintro p ⟨d,c⟩;have g:=O d;have a:=O c;clear d c;cases hv:iI x
 all_goals
  have i:=O hv;clear hv
  go_wp2_with(first
   |(refine it g rfl (.tmp 1) rfl rfl ?_)
   |((with_reducible refine(sw x f v s k _ (o.out.go a.out)).mono ?_);rintro e q ⟨l,j⟩;rw[i]at l;subst l;have h:=O j;clear j))
  go_ret;exact⟨by rw[i];rfl,I a h⟩
def Dm:List UInt8:=[77,73,82,82,79,82]
def zN(l:List gM)(i:Nat)(y:gM):Bool:=(y.s.glass.toList==Dm)||(y.s.kind==3)||(y.s.kind==4)||decide (i+1=l.length)
def ES(x f v s k)(i:Nat)(y w)(m:iP (fun b=>b<w.heap.size) w x f v s k)(E:x.l[i]? =some y):
 Calls prog 114 #[jG x f v s k,.int .i64 (i:Int)] w (iZ w (.bool (zN x.l i y))):=by
 obtain⟨sa,n,t⟩:=s
 have N:i<n:=by have:=m.l.1;simp only at this;rw[<- this];exact(TG.1 E).1
 have h:x.l.length=n:=m.l.1;have b0:n<=1000000:=m.sn;obtain⟨b1,off,z,cs,K,hlt,C,⟨a2,r,c2,rfl,hz,P,L,M⟩,Q⟩:=m.l.at N;rw[E]at C;cases C;simp only at K;subst K;have H:=O Q;have q:=O h;clear m E hz P L M Q h;have a:hU (w.alloc (.cells (iw x f v ⟨some ⟨b1,off,none⟩,n,t⟩ k).toArray 37)) w 37 x f v ⟨some ⟨b1,off,none⟩,n,t⟩ k:=TL w _;have c:=(TH w w).alloc (aa _) (.cells (iw x f v ⟨some ⟨b1,off,none⟩,n,t⟩ k).toArray 37);have g:=O a;have e:=O c;clear a c;unfold jG
 go_enter func114,ntmps114
 go_upto_region 1 with fail
 refine gI (fun p=>hU p w 37 x f v ⟨some ⟨b1,off,none⟩,n,t⟩ k/\Below w w p) ⟨g,e⟩ ?_;clear g e;rintro j ⟨a,c⟩;obtain⟨_,_,_,_,_,_,_,D,_⟩:=a.cells;have a8:=a.lt;have h1:=Y.new j y.s a2 r c2;have d:=gY (o:=.cells (⟨y.s,a2,r,c2⟩:jt) 70) (TH j j);have B:=O (jb H (gE c) hlt);have g:=O a;have e:=O c;have F:=O h1;have u:=O d;clear a c h1 d H
 go_upto_region 2 with(first
  |(refine lw B rfl (.tmp 9) rfl rfl ?_)
  |(refine lC y.s a2 r c2 _ rfl rfl (.tmp 5) (.tmp 10) rfl rfl rfl ?_))
 refine gI (fun p=>Y p j y.s a2 r c2/\Below j j p) ⟨F,u⟩ ?_;clear F u D B;rintro w2 ⟨h1,d⟩;obtain⟨k0,k1,k2,k3,k4,k5,k6,k7,k8,k9,R,S,T,W,X,a0,a1,a3,a4,a5,a6,a7⟩:=h1.cells;obtain⟨_,_,_,_,_,_,_,D,_⟩:=(g.go d).cells;have a9:=h1.lt;have A:=O (I e d);clear h1 d g e k1 k2 k3 k4 k5 k6 k7 k8 k9 R S T X a0 a1 a3 a4 a5 a6 a7;cases q1:(y.s.glass.toList==[77,73,82,82,79,82]) <;>cases q2:(y.s.kind==3) <;>cases q3:(y.s.kind==4) <;>cases q4:((i:Int)==(n:Int)-1)
 all_goals
  go_wp2_with fail
  go_ret;refine⟨?_,A⟩;have hl:=q.out;clear A k0 W D;unfold zN Dm;rw[q1,q2,q3,hl];simp at q4⊢
  try omega
def Ia(a:List jQ)(ws:List Int)(y:gM):Prop:=
 ∃(c:Nat)(g:jQ),a[c]? =some g/\g.nm=y.s.glass/\ ∀j,j<ws.length/2->g.lo<=ws.getD (j*2) 0/\ws.getD (j*2) 0<=g.hi/\g.Far (ws.getD (j*2) 0)/\ ∃A S,Sx g (ws.getD (j*2) 0) A S
def xg(zs:List Int):Prop:=∀z∈zs,10000000<=z/\z<=40000000
def Rh(w:World)(n:Nat)(e:Ending)(w':World):Prop:=
 ∃a c zs,e=.returned (.tuple #[Z a n c,oZ])/\IRp (fun b=>w.heap.size<=b/\b<w'.heap.size) w' 1 a n c zs/\(a=none->c=0)/\xg zs/\Below w w w'
def EU(n):xg (List.replicate n 10000000):=by
 intro z a;obtain⟨_,rfl⟩:=List.mem_replicate.1 a;omega
def Ib(x f v s k cl ga gn gc i y za zc zs w)(hx:iP (fun b=>b<w.heap.size) w x f v s k)(r:x.l[i]? =some y)(d6:RR EQ 10 (fun b=>b<w.heap.size) w ga gn gc cl)(d7:Ch cl)(Q:IRp (fun b=>b<w.heap.size) w 1 za v.n zc zs)(f1:za=none->zc=0)(f2:xg zs)(h0:v.n<=5)(e7:zN x.l i y=false->y.s.glass.toList.isEmpty=false->Ia cl x.ws y):
 Calls prog 77 #[jG x f v s k,Z ga gn gc,.int .i64 (i:Int),Z za v.n zc] w (Rh w v.n):=by
 obtain⟨sa,n,sc⟩:=s;obtain⟨va,m,vc⟩:=v;simp only at Q h0⊢
 have g6:i<n:=by have:=hx.l.1;simp only at this;rw[<- this];exact(TG.1 r).1
 have i2:n<=1000000:=hx.sn;have e8:x.ws.length=m*2:=hx.ws.1;obtain⟨b1,off,q,cs,e1,hlt,f0,⟨a2,n2,c2,rfl,hq,g8,g3,D⟩,hr⟩:=hx.l.at g6;rw[r]at f0;cases f0;simp only at e1;subst e1;have kg:=hr 13 _ rfl;have Hx:=O hx;have Hy:=O r;have a4:=O d6;have b6:=O d7;have Hz:=O Q;have g0:=O f1;have g1:=O f2;have f7:=O e7;have f9:=O e8;have Kg:=O kg;have h6:=O D;clear hx r d6 d7 Q f1 f2 e7 e8 hq g8 g3 D hr kg;have N:hU (w.alloc (.cells (iw x f ⟨va,m,vc⟩ ⟨some ⟨b1,off,none⟩,n,sc⟩ k).toArray 37)) w 37 x f ⟨va,m,vc⟩ ⟨some ⟨b1,off,none⟩,n,sc⟩ k:=TL w _;have W:=(TH w w).alloc (aa _) (.cells (iw x f ⟨va,m,vc⟩ ⟨some ⟨b1,off,none⟩,n,sc⟩ k).toArray 37);have R:=O N;have F:=O W;clear N W;unfold jG
 go_enter func77,ntmps77
 go_upto_region 1 with fail
 refine gI (fun wx=>hU wx w 37 x f ⟨va,m,vc⟩ ⟨some ⟨b1,off,none⟩,n,sc⟩ k/\Below w w wx) ⟨R,F⟩ ?_;clear R F;rintro w1 ⟨N,W⟩;have h9:=N.lt;have R:=O N;have F:=O W;clear N W
 go_wp2_with(refine it R rfl (.tmp 4) rfl rfl ?_)
 refine(ES x f ⟨va,m,vc⟩ ⟨some ⟨b1,off,none⟩,n,sc⟩ k i y w1 (Hx.go F) Hy).mono ?_;rintro e C ⟨he,X⟩;cases hth:zN x.l i y
 .rw[hth]at he
  subst he;have f8:=O hth;clear hth;have D:=R.go X;obtain⟨_,_,_,_,_,_,c6,c7,_⟩:=D.cells;have i0:=D.lt;have d:=I F X;have kg:=(d.cell (p:=⟨b1,off+i*22+13,none⟩) hlt).trans Kg;have h4:b1<C.heap.size:=ab hlt d.size;have a5:=O D;have t:=O d;clear D d X;cases hem:y.s.glass.toList.isEmpty
  .obtain⟨B,g,c0,e2,a6⟩:=f7 f8 hem
   have g4:B<gn:=by rw[<- a4.1];exact(TG.1 c0).1
   have f3:gn<=40:=by rw[<- a4.1];exact b6.len
   have b5:=O c0;have c4:=O a6;have f6:=O e2;clear c0 a6 e2
   go_wp2_with fail
   rw[<- f6];refine(ER cl ga gn gc B g C (a4.go wl t) b6 b5).mono ?_;rintro e w3 ⟨rfl,M⟩;have d8:=a5.go M;have c9:=O d8;have a3:=O (I t M);clear d8 M c6 c7 kg a5 t
   go_wp2_with fail
   go_loopw [12,13] (fun ov iv wr=>∃(j:Nat)(qs:List Int),j<=m/\iv=.int .i64 (j:Int)/\wr.ownsRow (w+1) 3 1 ov j (qs.map (Value.int .i64))/\xg qs/\hU wr w 37 x f ⟨va,m,vc⟩ ⟨some ⟨b1,off,none⟩,n,sc⟩ k/\Below w w wr) (fun _ iv _=>m-(intOf iv).toNat)
   case atStart=>exact⟨0,[],by omega,rfl,World.ownsRow_nil _ _ _ _,(fun z h=>by cases h),c9,a3⟩
   case round=>
    clear c9 a3;obtain⟨j,qs,hj,rfl,ho,e6,hg,hb⟩:=hrel;obtain⟨_,_,_,_,_,_,c6,c7,_⟩:=hg.cells;have hl:=hg.lt;have g2:=hb.size;have Ho:=O ho;have d1:=O e6;have Hg:=O hg;have Hb:=O hb;clear ho e6 hg hb
    by_cases h8:j<m
    .obtain⟨g7,g5,a7,A,S,e0⟩:=c4 j (by rw[f9];omega)
     obtain⟨b3,o3,e3,c8,d5⟩:=(Hx.go Hb).ws.2.2 (by show 0<m;omega);simp only at e3;subst e3;have x0:=d5 (j*2) (by show j*2<m*2;omega);obtain⟨b4,E,q4,h7,e4,a,e5,⟨rfl,h5⟩,u⟩:=(a4.go wl Hb).at g4;rw[b5]at e5;cases e5;subst e4;have z0:=u 0 _ rfl;have z1:=u 1 _ rfl;have z2:=u 2 _ rfl;have z3:=u 3 _ rfl;have z4:=u 4 _ rfl;have z5:=u 5 _ rfl;have z6:=u 6 _ rfl;have z7:=u 7 _ rfl;have z8:=u 8 _ rfl;have z9:=u 9 _ rfl;rw[bE]at z0;generalize x.ws.getD (j*2) 0=L at*;have b7:=O e0;have c5:=O a7;clear e0 a7 u d5;have g9:=O (b6.ok g (aL b5))
     go_upto_region 12 with fail
     refine ic 14 [13] [] [(0,true),(1,true),(2,true),(3,true),(4,true),(5,true),(6,true),(7,true),(8,true),(9,true),(10,false),(11,true),(12,true),(13,true)] (by kernel_rfl) (by kernel_rfl) ⟨by simp,by simp,fun _ h=>by cases h⟩ (fun _ _ _ _ _ h=>h) (fun _ _ o _ _ h=>by cases o<;>exact h) ?_
     iterate 10
      refine gZ (v:=?_) rfl rfl (by rfl) ?_ ?_;rotate_left
      .intro y r
       have y0:=(r.cell (p:=⟨b4,E+B*10,none⟩) a).trans z0;have y1:=(r.cell (p:=⟨b4,E+B*10+1,none⟩) a).trans z1;have y2:=(r.cell (p:=⟨b4,E+B*10+2,none⟩) a).trans z2;have y3:=(r.cell (p:=⟨b4,E+B*10+3,none⟩) a).trans z3;have y4:=(r.cell (p:=⟨b4,E+B*10+4,none⟩) a).trans z4;have y5:=(r.cell (p:=⟨b4,E+B*10+5,none⟩) a).trans z5;have y6:=(r.cell (p:=⟨b4,E+B*10+6,none⟩) a).trans z6;have y7:=(r.cell (p:=⟨b4,E+B*10+7,none⟩) a).trans z7;have y8:=(r.cell (p:=⟨b4,E+B*10+8,none⟩) a).trans z8;have y9:=(r.cell (p:=⟨b4,E+B*10+9,none⟩) a).trans z9;have i3:=(r.cell (p:=⟨w.heap.size,6,none⟩) hl).trans c6;have i4:=(r.cell (p:=⟨b3,o3+j*2,none⟩) c8).trans x0;go_simp
       with_reducible rfl
      try simp only[V]
     clear x0 z0 z1 z2 z3 z4 z5 z6 z7 z8 z9;refine iK rfl rfl (fun xa e9 K hK=>?_);go_simp;obtain⟨T,hT⟩:=tV (((S+1)/2:Nat):Int);have c1:=HZ g L xa g9 g7 g5 c5 A S b7;rw[<- hT]at c1
     have d2:10000000<=T/\T<=40000000:=by
      have:=b7.lo;have:=b7.hi;omega
     have f4:=O d2;clear hT d2;refine c1.mono ?_;clear c1;rintro e w5 ⟨rfl,b9⟩;refine hK _ _ b9 ?_;clear hK K
     try simp only[V]
     have c3:=gJ (k:=1) e9;have d3:=c3.trans (b9.mono c3.size);have b2:=O d3;clear d3 e9 c3 b9
     iterate 2
      refine gZ (v:=?_) rfl rfl (by rfl) ?_ ?_;rotate_left
      .intro y r
       skip;go_simp
       with_reducible rfl
      try simp only[V]
     iterate 1
      refine iy (v:=?_) rfl (by rfl) ?_ ?_;rotate_left
      .intro y
       go_simp
       with_reducible rfl
      try simp only[V]
     refine jV rfl (fun w6 a0=>?_);have a1:=b2.trans (a0.mono b2.size);have d0:=O (Hg.go a1);have b0:=O (I Hb a1);have b8:=O (kD Ho a1);have h3:w.heap.size<=w6.heap.size:=af g2 a1.size;have i1:w.heap.size<w6.heap.size:=d0.lt;clear a1 a0 b2 c6 c7
     go_wp2_with(refine je underlying162 Tryz.infoInt1 rfl (by omega) (by omega) rfl (.tmp 70) (.tmp 72) rfl (w+1) _ j qs rfl (b8.alloc _) (fun _=>True) _ 1 1 [T] rfl (uC rfl rfl rfl) (fun e=>by cases e) (by omega) (by simp;omega) ?_;intro v' w4 P c;have a9:=O P;have H:=O c;clear P c)
     have e1:=(jI (base:=w.heap.size+1) b8 H (b:=w.heap.size) (by omega) (by omega)).trans d0;have e3:=jF b0 b8 H (by omega) (by omega);have E1:=O e1;have E3:=O e3;clear e1 e3
     go_roundw
     case rel=>exact⟨j+1,_,by omega,by go_num,a9,(fun z Q=>by
      obtain Q|Q:=bj.1 Q
      .exact d1 z Q
      .obtain rfl:=aK.1 Q;exact f4),E1,E3⟩
     case measure=>simp[intOf];omega
    .obtain rfl:j=m:=by omega
     obtain⟨oa,oc,e,h1,h2⟩:=lc Ho;subst e;go_wp2;go_ret2;exact⟨oa,oc,qs,rfl,h2.kept (gN.refl _ _) (fun b h=>⟨by have:=h.1;omega,h.2⟩),h1,d1,Hb⟩
  .go_wp2_with fail
   refine(Jx m C (by omega)).mono ?_;rintro e w3 ⟨ov,qs,rfl,ho,rfl,M⟩;obtain⟨oa,oc,rfl,h1,h2⟩:=lc ho;have Ho:=O h2;have a3:=O M;have Hc:=O h1;clear h1 h2 ho M
   go_wp2_with fail
   go_ret2;exact⟨oa,oc,_,rfl,Ho.kept (gN.refl _ _) (fun b h=>⟨by have:=h.1;have:=t.size;omega,h.2⟩),Hc,EU m,I t a3⟩
 .rw[hth]at he
  subst he;have d:=I F X;have t:=O d;clear d X
  go_wp2_with(refine je underlying162 Tryz.infoInt1 rfl (by omega) (by omega) rfl (.tmp 19) (.tmp 20) rfl C (.slice (J (C.heap.size)) 0 0) 0 [] rfl (World.ownsRow_made C #[] 0 (aa _) (by simp) rfl) (fun b=>b<C.heap.size) za m zc zs rfl (Hz.kept ((gE t).trans (gE ((TH C C).alloc (aa _) _)|>.mono (fun b h=>ab h t.size))) (fun b h=>ab h t.size)) g0 (by omega) (by simp) ?_;intro v' w6 a8 c;obtain⟨a',c',rfl,d4,hi⟩:=lc a8;have a0:Below C C w6:=((TH _ _).alloc (aa _) _).grown c (by simp) (by intro k hk;simp[Value.ownBlock]at hk;omega);clear a8 c;have Hi:=O hi;have Hc:=O d4;have b0:=O a0;clear hi d4 a0)
  have d9:IRp (fun b=>C.heap.size<=b/\b<w6.heap.size) w6 1 a' m c' zs:=by have k:=Hi.out;rw[aV]at k;exact k
  have f5:=O d9;clear d9;go_ret2;exact⟨a',c',zs,by simp,f5.kept (gN.refl _ _) (fun b h=>⟨af t.size h.1,h.2⟩),Hc,g1,I t b0⟩

end Go.Proofs.YtgohdcccfkjooaaGreatDoor
