import Derived.Test.YtlnbjinneegciabGreatDoorTAN
import Derived.Test.YtlnbjinneegciabGreatDoorTAG
import Derived.Test.YtlnbjinneegciabGreatDoorTAO
namespace Go.Proofs.YtlnbjinneegciabGreatDoor
set_option linter.all false
set_option maxRecDepth 100000
set_option maxHeartbeats 3200000
open Go.Proofs.Tryz Go.RowKit
def MS(l:List gM)(x:jd)(a b:Option Addr)(m d n c:Nat)(w:World)(h:RR jE 22 (fun b=>b<w.heap.size) w a m d l)(i:m<=1000000)(g:IR w w 3 b n c x.zs)(j:n<=1000000):
 Calls prog 50 #[Z a m d,Z b n c] w (fun e w'=>∃v,e=.returned (.tuple #[v,.bool (lr l x)])/\Below w w w'):=by
 have f:n=x.zs.length/3:=by rw[g.1];omega
 refine(wW l x.zs a b m d n c w h i g j).mono ?_;rintro e w' (⟨h1,rfl,hb⟩|⟨l',v,h1,rfl,_,hb⟩)
 .exact⟨_,by unfold lr;rw[<- f,h1],hb⟩
 .exact⟨_,by unfold lr;rw[<- f,h1],hb⟩
def Ks{s k:ByteArray}{ks:List ByteArray}{j:Nat}(h:ks[j]? =some k)(h0:rx s (ks.take j)=false):rx s (ks.take (j+1))=(s==k):=wV h h0
def MT{s k:ByteArray}{ks:List ByteArray}{j i:Nat}(h:ks[j]? =some k)(b:j<i)(a:(s==k)=true):rx s (ks.take i)=true:=by
 refine yI (k:=j) (x:=k) ?_ a;rw[cZ,aq b];exact h
def Kt(a b:ByteArray):(a.toList==b.toList)=(b==a):=by
 show _=(b.data==a.data)
 rw[bJ,dz,dz];exact⟨fun h=>by rw[BI h],fun h=>by rw[ByteArray.toList_eq,ByteArray.toList_eq,h]⟩
def C4(x:gR)(f v s k:iJ)(w:World)(hf:RR jE 22 (fun b=>b<w.heap.size) w s.a s.n s.c x.l)(hn:s.n<=1000000)
 (hc:RR oB 2 (fun b=>b<w.heap.size) w k.a k.n k.c x.cf)(hk:k.n<=1000000):
 Calls prog 56 #[ry x f v s k] w (iZ w (.bool (jo x.l x.cf))):=by
 have Hf:=O hf;have Hc:=O hc;have q:=hc.1;clear hf hc;obtain⟨sa,m,S⟩:=s;obtain⟨ka,n,kc⟩:=k;simp only at*;have a5:=O (show kr (w.alloc (.cells (iw x f v ⟨sa,m,S⟩ ⟨ka,n,kc⟩).toArray 37)) w 37 x f v ⟨sa,m,S⟩ ⟨ka,n,kc⟩from TL w _);have a0:=O ((TH w w).alloc (ag _) (.cells (iw x f v ⟨sa,m,S⟩ ⟨ka,n,kc⟩).toArray 37));unfold ry;go_enter func56,ntmps56;go_upto_region 1 with fail;refine gI (fun T=>kr T w 37 x f v ⟨sa,m,S⟩ ⟨ka,n,kc⟩/\Below w w T) ⟨a5,a0⟩ ?_;clear a5 a0;rintro w1 ⟨hg,hb⟩;have hl:=hg.lt;obtain⟨_,_,_,_,_,_,_,_,N⟩:=hg.cells;have Hg:=O hg;have b4:=O hb;clear hg hb;go_wp2
 go_loopw [3] (fun B wr=>∃i:Nat,i<=n/\B=.int .i64 (i:Int)/\(x.cf.take i).all (lr x.l)=true/\(List.range i).all (od (x.cf.map jd.nm))=true/\Below w1 w1 wr) (fun B _=>n-(intOf B).toNat)
 case atStart=>exact⟨0,by omega,rfl,rfl,rfl,TH _ _⟩
 case round=>
  obtain⟨i,hi,rfl,ho,hd,hb⟩:=hrel;have Ho:=O ho;have Hd:=O hd;have W:=O hb;have o:=O (I b4 hb);clear ho hb hd N;obtain⟨_,_,_,_,_,_,_,_,N⟩:=(Hg.go W).cells;have hgl:w.heap.size<wr.heap.size:=eb hl W.size;have C8:=O N;by_cases b2:i<n
  .have P:=Hc.go ky o
   obtain⟨b1,off,y,cs,rfl,hlt,hy,⟨a2,n2,c2,rfl,R,c0,b7,b0⟩,K⟩:=P.at b2;have b6:=O P;clear P;have x0:=K 0 _ rfl;have x1:=K 1 _ rfl;rw[bE]at x0
   have A:(x.cf.map jd.nm)[i]? =some y.nm:=by rw[aR,hy];rfl
   have a9:od (x.cf.map jd.nm) i=(!rx y.nm ((x.cf.map jd.nm).take i)&&kI y.nm):=by unfold od;rw[A]
   have F:od (x.cf.map jd.nm) i=false->jo x.l x.cf=false:=by
    intro e;unfold jo vV;rw[aU,q,jK b2 e];simp
   have H:lr x.l y=false->jo x.l x.cf=false:=by
    intro e;unfold jo;rw[Ew hy e];rfl
   have Hz:=O (R.ir (fun _ h=>h));have a6:=O b0;have Hy:=O hy;have M:=O a9;have D:=O F;have X:=O H;have C:=O (TL wr (.cells #[y.nm,Z a2 n2 c2] 67));clear K hy R A a9 F H b7 b0;go_upto_region 5 with fail;refine gI (fun T=>T.heap[wr.heap.size]? =some (.cells #[y.nm,Z a2 n2 c2] 67 (0,0))/\Below wr wr T) ⟨C,gY (TH _ _)⟩ ?_;clear C x0 x1 N;rintro w2 ⟨g,a8⟩;have b9:=TK g;have y0:=(VV g 0).trans rfl;have C:=O g;have a1:=O a8;clear g a8;cases hq:kI y.nm
   .have Q:=O hq;clear hq
    go_wp2_with((with_reducible refine(pA y.nm _ a6.out).mono ?_);rintro e w3 ⟨u,hb⟩;rw[Q]at u;subst u;have L:=O hb;clear hb)
    go_ret;exact⟨by rw[D (by rw[M,Q];simp)];rfl,I o (I a1 L)⟩
   .have Q:=O hq;clear hq
    go_wp2_with((with_reducible refine(pA y.nm _ a6.out).mono ?_);rintro e w3 ⟨u,hb⟩;rw[Q]at u;subst u;have L:=O hb;clear hb y0)
    go_loopw [5] (fun B wq=>∃j:Nat,j<=i/\B=.int .i64 (j:Int)/\rx y.nm ((x.cf.map jd.nm).take j)=false/\Below w2 w2 wq) (fun B _=>i-(intOf B).toNat)
    case atStart=>exact⟨0,by omega,rfl,rfl,L⟩
    case round=>
     obtain⟨j,hj,rfl,hm,E⟩:=hrel;have Hm:=O hm;have b5:=O E;have d:=O (I a1 E);have g:=(E.block _ b9).trans C;have y0:=(VV g 0).trans rfl;have y1:=(VV g 1).trans rfl;have c5:=TK g;have N:=(d.cell (p:=⟨w.heap.size,8,none⟩) hgl).trans C8;clear hm E g;by_cases b8:j<i
     .obtain⟨b3,o3,z,c4,e3,c1,R,⟨a3,n3,c3,rfl,_,_,_,_⟩,K⟩:=(b6.go ky d).at (show j<n by omega)
      cases e3;have z0:=K 0 _ rfl;rw[bE]at z0
      have A:(x.cf.map jd.nm)[j]? =some z.nm:=by rw[aR,R];rfl
      have a7:=O A;clear K R A y1;cases hq:(z.nm.toList==y.nm.toList)
      all_goals
       have Hq:=O ((Kt z.nm y.nm).symm.trans hq);go_wp2_with fail
       go_quiet (fail)
       go_wp2_with fail
      .go_roundw
       case rel=>exact⟨j+1,by omega,by go_num,(Ks a7 Hm).trans Hq,gV b5 _⟩
       case measure=>simp[intOf];omega
      .go_ret
       exact⟨by rw[D (by rw[M,MT a7 b8 Hq];rfl)];rfl,I o (gV d _)⟩
     .obtain rfl:j=i:=by omega
      have c7:=(d.cell (p:=⟨w.heap.size,7,none⟩) hgl).trans ((Hg.go W).cells).2.2.2.2.2.2.2.1;cases t:lr x.l y
      all_goals
       have r:=O t;clear t
       go_wp2_with((with_reducible refine(MS x.l y sa a2 m S n2 c2 _ ((Hf.out.go iD o.out).go iD d.out) hn (Hz.out.go d.out) c0).mono ?_);rintro e w5 ⟨v5,u,hb⟩;rw[r]at u;subst u;have a4:=O hb;clear hb)
      .go_ret
       exact⟨by rw[X r];rfl,I o (I d a4)⟩
      .go_roundw
       case rel=>exact⟨j+1,by omega,by go_num,(BV Hy Ho).trans r,jl Hd (by rw[M,Hm,Q];rfl),I W (I d a4)⟩
       case measure=>simp[intOf];omega
  .obtain rfl:i=n:=by omega
   have t:jo x.l x.cf=decide ((i:Int)<=4):=by
    unfold jo vV;have h1:=Ho.out;rw[<- q,bf]at h1;rw[h1,aU,q,Hd];simp;omega
   have r:=O t;clear t;go_wp2;go_ret;exact⟨by rw[r];simp<;>rfl,o⟩
def Dl(l:List jQ)(a:Option Addr)(n c:Nat)(w:World)(h:RR EQ 10 (fun b=>b<w.heap.size) w a n c l)(f:Ch l):
 Calls prog 32 #[Z a n c] w (iZ w (.int .i64 0)):=by
 have H:=O h;have g:=O f;clear h f;go_enter func32,ntmps32;go_wp2_with fail;refine(wm l a n c w H g).mono ?_;rintro e i ⟨rfl,d⟩;go_wp2;go_ret;exact⟨rfl,d⟩
def KO(l:List jQ)(a:Option Addr)(n c k:Nat)(g:jQ)(w:World)(h:RR EQ 10 (fun b=>b<w.heap.size) w a n c l)(o:Ch l)(p:l[k]? =some g):
 Calls prog 89 #[Z a n c,g.nm] w (iZ w (.int .i64 (k:Int))):=by
 have C:n<=40:=by rw[<- h.1];exact o.len
 have B:k<n:=by rw[<- h.1];exact(TG.1 p).1
 have H:=O h;have x:=O o;have s:=O p;clear h o p;go_enter func89,ntmps89;go_wp2
 go_loopw [5] (fun r wr=>∃i:Nat,i<=k/\r=.int .i64 (i:Int)/\Below w w wr) (fun r _=>k-(intOf r).toNat)
 case atStart=>exact⟨0,by omega,rfl,TH _ _⟩
 case round=>
  obtain⟨i,hi,rfl,d:HQ _⟩:=hrel
  have u:i<n:=by omega
  obtain⟨b1,off,y,cs,rfl,hlt,f,⟨rfl,m⟩,q⟩:=(H.go wl d).at u;have z:=q 0 _ rfl;rw[bE]at z;by_cases t:i<k
  .have j:=x.ne k i g y s f t
   have v:(y.nm.toList==g.nm.toList)=false:=by rw[ak];exact fun e=>j e.symm
   clear j q f m;go_wp2
   go_roundw
   case rel=>exact⟨i+1,by omega,by go_num,by first|exact d|exact gV d _⟩
   case measure=>simp[intOf];omega
  .obtain rfl:i=k:=by omega
   have e:y=g:=by have:=f.symm.trans s;simpa using this
   subst e
   have A:(y.nm.toList==y.nm.toList)=true:=by simp
   clear q f m;go_wp2;go_ret;exact⟨rfl,by first|exact d|exact gV d _⟩
def ER(l:List jQ)(a:Option Addr)(n c k:Nat)(g:jQ)(w:World)(h:RR EQ 10 (fun b=>b<w.heap.size) w a n c l)(m:Ch l)(o:l[k]? =some g):
 Calls prog 59 #[Z a n c,g.nm] w (iZ w (.tuple #[.int .i64 (k:Int),oZ])):=by
 have H:=O h;have i:=O m;have p:=O o;clear h m o;go_enter func59,ntmps59;go_wp2_with fail;refine(wm l a n c w H i).mono ?_;rintro e q ⟨rfl,d:HQ _⟩;go_wp2_with fail;refine(KO l a n c k g q (H.go wl d) i p).mono ?_;rintro e s ⟨rfl,f⟩;have j:=O (I d f);clear f
 have r:¬((k:Int) <0):=by omega
 go_wp2;go_ret2;exact⟨rfl,j⟩
def PF(w:World)(n:Nat)(P:List Int->Prop)(e:Ending)(w':World):Prop:=
 ∃v zs,e=.returned v/\w'.ownsRow w 3 1 v n (zs.map (Value.int .i64))/\P zs/\Below w w w'
def Tryz.infoInt1:(prog.info? 3).map (fun i=>(i.zero,i.size,i.bytes))=some (some (.int .i64 0),1,8):=by kernel_rfl
def Jx(n:Nat)(w:World)(p:n<=1000):
 Calls prog 34 #[.int .i64 (n:Int)] w (PF w n (fun zs=>zs=List.replicate n 10000000)):=by
 go_enter func34,ntmps34;go_wp2
 go_loopw [3,4] (fun v h wr=>∃i:Nat,i<=n/\h=.int .i64 (i:Int)/\wr.ownsRow w 3 1 v i ((List.replicate i (10000000:Int)).map (Value.int .i64))/\Below w w wr) (fun _ h _=>n-(intOf h).toNat)
 case atStart=>exact⟨0,by omega,rfl,World.ownsRow_nil _ _ _ _,TH _ _⟩
 case round=>
  obtain⟨i,hi,rfl,l,hb⟩:=hrel;have g:=O l;have j:=O hb;have k:=hb.size;clear l hb;by_cases o:i<n
  .go_wp2_with(refine je underlying109 Tryz.infoInt1 rfl (by omega) (by omega) rfl (.tmp 10) (.tmp 11) rfl w _ i (List.replicate i 10000000) rfl (g.alloc _) (fun _=>True) _ 1 1 [10000000] rfl (uC rfl rfl rfl) (fun e=>by cases e) (by omega) (by simp;omega) ?_;intro q r b a;have d:=O b;have c:=O a;clear b a)
   have m:=O (jF j g c (by omega) k);have f:=O (show List.replicate i (10000000:Int)++[10000000]=List.replicate (i+1) 10000000 by rw[<- List.replicate_succ'])
   go_roundw
   case rel=>exact⟨i+1,by omega,by go_num,by rw[<- f];exact d,m⟩
   case measure=>simp[intOf];omega
  .obtain rfl:i=n:=by omega
   go_wp2;go_ret;exact⟨_,_,rfl,g,rfl,j⟩
def jZ{ops:Array Oper}{b:List Oper}{e:Oper}{d:Act}{w:World}{Q:Exit->Act->World->Prop}{g:Nat}{T:TypeId}{x:gR}{f v s k:iJ}(h:kr w g T x f v s k)(i:Region.wanted e (yielded ops d.tmps)=true)(y:Operand)(m:e.op=.load 37 y)
 (o:d.eval y=.pointer (J g))(l:wpList prog ops Q b (d.put e.dst (.agg #[x.nm,x.i9,x.pb,x.stop,x.p9,Z f.a f.n f.c,Z v.a v.n v.c,Z s.a s.n s.c,Z k.a k.n k.c])) w):wpList prog ops Q (e::b) d w:=
 pV i fun K j=>wp_load_mid 37 y m g 0 o (iw x f v s k) _ h.range underlying37 rfl Tryz.infoLens (j _ _ l)
def sw(x:gR)(f v s k:iJ)(w:World)(R:iP (fun b=>b<w.heap.size) w x f v s k):
 Calls prog 31 #[ry x f v s k] w (iZ w (.bool (iI x))):=by
 have i:=O R;clear R;have F:=O (show kr (w.alloc (.cells (iw x f v s k).toArray 37)) w 37 x f v s k from TL w _);have E:=O ((TH w w).alloc (ag _) (.cells (iw x f v s k).toArray 37))
 have t:∀j,j<6->jO x j=false->iI x=false:=fun j hj h=>jK hj h
 have H:jx x.i9 x.fs f.n=jO x 2:=by show _=jx x.i9 x.fs (x.fs.length/2);rw[<- qW i.fs]
 have K:VY x.p9 x.ws v.n=jO x 3:=by show _=VY x.p9 x.ws (x.ws.length/2);rw[<- qW i.ws]
 have r:jO x 0=true->jO x 1=true->jO x 2=true->jO x 3=true->jO x 4=true->jO x 5=true->iI x=true:=by
  intro h0 h1 h2 h3 h4 h5
  show(List.range 6).all (jO x)=true
  simp[List.range,List.range.loop,h0,h1,h2,h3,h4,h5]
 have g:=O t;have q:=O H;have z:=O K;have B:=O r;clear t H K r;unfold ry;go_enter func31,ntmps31;go_upto_region 1 with fail;refine gI (fun W=>kr W w 37 x f v s k/\Below w w W) ⟨F,E⟩ ?_;clear F E;rintro S ⟨D,hb⟩;have Q:=D.lt;obtain⟨c0,c1,c2,_⟩:=D.cells;have X:=O c1;have C2:=O c2;have d:=O (i.go hb);have o:=O D;have m:=O hb;clear D hb c1 c2;have a:=TH S S;cases q0:kI x.nm<;>cases q1:bt x.i9 0 1000000000<;>cases q2:bt x.pb 1 1000000000
 all_goals
  have L:=O q0;have M:=O q1;have N:=O q2;clear q0 q1 q2
  go_upto_region 3 with(first
   |((with_reducible refine(pA x.nm _ i.out.nm).mono ?_);rintro e w2 ⟨c,hb⟩;rw[L]at c;subst c;replace a:=I a hb;have c1:=(a.cell (p:=⟨w.heap.size,1,none⟩) Q).trans X;clear hb)
   |((with_reducible refine(ix x.i9 0 1000000000 _).mono ?_);rintro e w3 ⟨c,hb⟩;rw[M]at c;subst c;replace a:=I a hb;have c2:=(a.cell (p:=⟨w.heap.size,2,none⟩) Q).trans C2;clear hb)
   |((with_reducible refine(ix x.pb 1 1000000000 _).mono ?_);rintro e w4 ⟨c,hb⟩;rw[N]at c;subst c;replace a:=I a hb;clear hb))
 iterate 4
  .go_ret
   exact⟨by rw[g 0 (by omega) L];rfl,I m a⟩
 iterate 3
  .go_ret
   exact⟨by rw[g 1 (by omega) (by show pN x.i9 x.pb=false;unfold pN;rw[M,N];rfl)];rfl,I m a⟩
 have Hs:=O (show jO x 1=true from by show pN x.i9 x.pb=true;unfold pN;rw[M,N];rfl);clear c0 c1 c2;cases q2:jO x 2
 .have R2:=O q2;clear q2
  go_wp2_with(first
   |(refine it (o.go a) rfl (.tmp 1) rfl rfl ?_)
   |((with_reducible refine(qX x f v s k _ ((d.out.go a).fs.ir (fun _ h=>h)) i.out.fn).mono ?_);rintro e P ⟨c,hb⟩;rw[q,R2]at c;subst c;replace a:=I a hb;clear hb))
  go_ret;exact⟨by rw[g 2 (by omega) R2];rfl,I m a⟩
 have R2:=O q2;clear q2;cases q3:jO x 3
 .have y:=O q3;clear q3
  go_wp2_with(first
   |(refine it (o.go a) rfl (.tmp 1) rfl rfl ?_)
   |(refine jZ (o.go a) (by rfl) (.tmp 1) rfl rfl ?_)
   |((with_reducible refine(qX x f v s k _ ((d.out.go a).fs.ir (fun _ h=>h)) i.out.fn).mono ?_);rintro e P ⟨c,hb⟩;rw[q,R2]at c;subst c;replace a:=I a hb;clear hb)
   |((with_reducible refine(vu x f v s k _ ((d.out.go a).ws.ir (fun _ h=>h)) i.out.wn).mono ?_);rintro e T ⟨c,hb⟩;rw[z,y]at c;subst c;replace a:=I a hb;clear hb))
  go_ret;exact⟨by rw[g 3 (by omega) y];rfl,I m a⟩
 have y:=O q3;clear q3;cases q4:iW x.stop x.l
 .have A:=O q4;clear q4
  go_wp2_with(first
   |(refine it (o.go a) rfl (.tmp 1) rfl rfl ?_)
   |(refine jZ (o.go a) (by rfl) (.tmp 1) rfl rfl ?_)
   |((with_reducible refine(qX x f v s k _ ((d.out.go a).fs.ir (fun _ h=>h)) i.out.fn).mono ?_);rintro e P ⟨c,hb⟩;rw[q,R2]at c;subst c;replace a:=I a hb;clear hb)
   |((with_reducible refine(vu x f v s k _ ((d.out.go a).ws.ir (fun _ h=>h)) i.out.wn).mono ?_);rintro e T ⟨c,hb⟩;rw[z,y]at c;subst c;replace a:=I a hb;clear hb)
   |((with_reducible refine(uY x f v s k _ (d.out.go a).l i.out.sn).mono ?_);rintro e w7 ⟨c,hb⟩;rw[A]at c;subst c;replace a:=I a hb;clear hb))
  go_ret;exact⟨by rw[g 4 (by omega) A];rfl,I m a⟩
 have A:=O q4;clear q4
 have u:iI x=jo x.l x.cf:=by
  cases q5:jo x.l x.cf
  .exact g 5 (by omega) q5
  .exact B L Hs R2 y A q5
 have C:=O u;clear u
 go_wp2_with(first
  |(refine it (o.go a) rfl (.tmp 1) rfl rfl ?_)
  |(refine jZ (o.go a) (by rfl) (.tmp 1) rfl rfl ?_)
  |((with_reducible refine(qX x f v s k _ ((d.out.go a).fs.ir (fun _ h=>h)) i.out.fn).mono ?_);rintro e P ⟨c,hb⟩;rw[q,R2]at c;subst c;replace a:=I a hb;clear hb)
  |((with_reducible refine(vu x f v s k _ ((d.out.go a).ws.ir (fun _ h=>h)) i.out.wn).mono ?_);rintro e T ⟨c,hb⟩;rw[z,y]at c;subst c;replace a:=I a hb;clear hb)
  |((with_reducible refine(uY x f v s k _ (d.out.go a).l i.out.sn).mono ?_);rintro e w7 ⟨c,hb⟩;rw[A]at c;subst c;replace a:=I a hb;clear hb)
  |((with_reducible refine(C4 x f v s k _ (d.out.go a).l i.out.sn (d.out.go a).cf i.out.kn).mono ?_);rintro e w8 ⟨c,hb⟩;subst c;replace a:=I a hb;clear hb))
 go_ret;exact⟨by rw[C];rfl,I m a⟩
def sB(x:gR)(f v s k:iJ)(w:World)(i:iP (fun b=>b<w.heap.size) w x f v s k):
 Calls prog 13 #[jG x f v s k] w (iZ w (err (iI x) 120)):=by
 have l:=O i;clear i;have c:=O (show kr (w.alloc (.cells (iw x f v s k).toArray 37)) w 37 x f v s k from TL w _);have a:=O ((TH w w).alloc (ag _) (.cells (iw x f v s k).toArray 37));unfold jG;go_enter func13,ntmps13;go_upto_region 1 with fail;refine gI (fun j=>kr j w 37 x f v s k/\Below w w j) ⟨c,a⟩ ?_;clear c a;rintro m ⟨c:HQ _,a:HQ _⟩;cases hv:iI x
 all_goals
  have g:=O hv;clear hv
  go_wp2_with(first
   |(refine it c rfl (.tmp 1) rfl rfl ?_)
   |((with_reducible refine(sw x f v s k _ (l.out.go a.out)).mono ?_);rintro e n ⟨h,d:HQ _⟩;rw[g]at h;subst h))
  go_ret;exact⟨by rw[g];rfl,I a d⟩

def Dm:List UInt8:=[77,73,82,82,79,82]
def zN(l:List gM)(i:Nat)(y:gM):Bool:=(y.s.gA.toList==Dm)||(y.s.kind==3)||(y.s.kind==4)||decide (i+1=l.length)
def ES(x:gR)(f v s k:iJ)(i:Nat)(y:gM)(w:World)(m:iP (fun b=>b<w.heap.size) w x f v s k)(E:x.l[i]? =some y):
 Calls prog 58 #[jG x f v s k,.int .i64 (i:Int)] w (iZ w (.bool (zN x.l i y))):=by
 obtain⟨sa,n,t⟩:=s
 have N:i<n:=by have:=m.l.1;simp only at this;rw[<- this];exact(TG.1 E).1
 have e:x.l.length=n:=m.l.1;have b0:n<=1000000:=m.sn;obtain⟨b1,off,z,cs,K,hlt,C,⟨a2,r,c2,rfl,hz,P,L,M⟩,Q⟩:=m.l.at N;rw[E]at C;cases C;simp only at K;subst K;have H:=O Q;have q:=O e;clear m E hz P L M Q e;have c:=O (show kr (w.alloc (.cells (iw x f v ⟨some ⟨b1,off,none⟩,n,t⟩ k).toArray 37)) w 37 x f v ⟨some ⟨b1,off,none⟩,n,t⟩ k from TL w _);have a:=O ((TH w w).alloc (ag _) (.cells (iw x f v ⟨some ⟨b1,off,none⟩,n,t⟩ k).toArray 37));unfold jG;go_enter func58,ntmps58;go_upto_region 1 with fail;refine gI (fun p=>kr p w 37 x f v ⟨some ⟨b1,off,none⟩,n,t⟩ k/\Below w w p) ⟨c,a⟩ ?_;clear c a;rintro g ⟨d,h⟩;obtain⟨_,_,_,_,_,_,_,D,_⟩:=d.cells;have a8:=d.lt;have F:=O (Y.new g y.s a2 r c2);have u:=O (gY (o:=.cells (⟨y.s,a2,r,c2⟩:jt) 58) (TH g g));have B:=O (jb H (gE h) hlt);have c:=O d;have a:=O h;clear d h H
 go_upto_region 2 with(first
  |(refine lw B rfl (.tmp 9) rfl rfl ?_)
  |(refine lC y.s a2 r c2 _ rfl rfl (.tmp 5) (.tmp 10) rfl rfl rfl ?_))
 refine gI (fun p=>Y p g y.s a2 r c2/\Below g g p) ⟨F,u⟩ ?_;clear F u D B;rintro w2 ⟨h1,j⟩;obtain⟨k0,k1,k2,k3,k4,k5,k6,k7,k8,k9,R,S,T,W,X,a0,a1,a3,a4,a5,a6,a7⟩:=h1.cells;obtain⟨_,_,_,_,_,_,_,D,_⟩:=(c.go j).cells;have a9:=h1.lt;have A:=O (I a j);clear h1 j c a k1 k2 k3 k4 k5 k6 k7 k8 k9 R S T X a0 a1 a3 a4 a5 a6 a7;cases q1:(y.s.gA.toList==[77,73,82,82,79,82]) <;>cases q2:(y.s.kind==3) <;>cases q3:(y.s.kind==4) <;>cases q4:((i:Int)==(n:Int)-1)
 all_goals
  go_wp2;go_ret;refine⟨?_,A⟩;have hl:=q.out;clear A k0 W D;unfold zN Dm;rw[q1,q2,q3,hl];simp at q4⊢
  try omega
def Ia(a:List jQ)(ws:List Int)(y:gM):Prop:=
 ∃(c:Nat)(g:jQ),a[c]? =some g/\g.nm=y.s.gA/\ ∀j,j<ws.length/2->g.lo<=ws.getD (j*2) 0/\ws.getD (j*2) 0<=g.hi/\g.Far (ws.getD (j*2) 0)/\ ∃A S,Sx g (ws.getD (j*2) 0) A S
def xg(zs:List Int):Prop:=∀z∈zs,10000000<=z/\z<=40000000
def Rh(w:World)(n:Nat)(e:Ending)(w':World):Prop:=
 ∃a c zs,e=.returned (.tuple #[Z a n c,oZ])/\IRp (fun b=>w.heap.size<=b/\b<w'.heap.size) w' 1 a n c zs/\(a=none->c=0)/\xg zs/\Below w w w'
def EU(n:Nat):xg (List.replicate n 10000000):=by
 intro z a;obtain⟨_,rfl⟩:=List.mem_replicate.1 a;omega
def Ib(x:gR)(f v s k:iJ)(cl:List jQ)(ga:Option Addr)(gn gc:Nat)(i:Nat)(y:gM)(za:Option Addr)(zc:Nat)(zs:List Int)(w:World)(hx:iP (fun b=>b<w.heap.size) w x f v s k)(d:x.l[i]? =some y)
 (d5:RR EQ 10 (fun b=>b<w.heap.size) w ga gn gc cl)(d6:Ch cl)(P:IRp (fun b=>b<w.heap.size) w 1 za v.n zc zs)(e9:za=none->zc=0)(f0:xg zs)(g8:v.n<=5)
 (e5:zN x.l i y=false->y.s.gA.toList.isEmpty=false->Ia cl x.ws y):
 Calls prog 35 #[jG x f v s k,Z ga gn gc,.int .i64 (i:Int),Z za v.n zc] w (Rh w v.n):=by
 obtain⟨sa,n,sc⟩:=s;obtain⟨va,m,vc⟩:=v;simp only at P g8⊢
 have g4:i<n:=by have:=hx.l.1;simp only at this;rw[<- this];exact(TG.1 d).1
 have i0:n<=1000000:=hx.sn;have e6:x.ws.length=m*2:=hx.ws.1;obtain⟨b1,off,q,cs,e1,hlt,e8,⟨a2,n2,c2,rfl,hq,g6,g1,D⟩,hr⟩:=hx.l.at g4;rw[d]at e8;cases e8;simp only at e1;subst e1;have Kg:=O (hr 13 _ rfl);have Hx:=O hx;have Hy:=O d;have a1:=O d5;have b2:=O d6;have Hz:=O P;have f8:=O e9;have f9:=O f0;have f5:=O e5;have f7:=O e6;have h4:=O D;clear hx d d5 d6 P e9 f0 e5 e6 hq g6 g1 D hr;have Q:=O (show kr (w.alloc (.cells (iw x f ⟨va,m,vc⟩ ⟨some ⟨b1,off,none⟩,n,sc⟩ k).toArray 37)) w 37 x f ⟨va,m,vc⟩ ⟨some ⟨b1,off,none⟩,n,sc⟩ k from TL w _);have F:=O ((TH w w).alloc (ag _) (.cells (iw x f ⟨va,m,vc⟩ ⟨some ⟨b1,off,none⟩,n,sc⟩ k).toArray 37));unfold jG;go_enter func35,ntmps35;go_upto_region 1 with fail;refine gI (fun wx=>kr wx w 37 x f ⟨va,m,vc⟩ ⟨some ⟨b1,off,none⟩,n,sc⟩ k/\Below w w wx) ⟨Q,F⟩ ?_;clear Q F;rintro w1 ⟨b9,d2⟩;have h7:=b9.lt;have Q:=O b9;have F:=O d2;clear b9 d2
 go_wp2_with(refine it Q rfl (.tmp 4) rfl rfl ?_)
 refine(ES x f ⟨va,m,vc⟩ ⟨some ⟨b1,off,none⟩,n,sc⟩ k i y w1 (Hx.go F) Hy).mono ?_;rintro e B ⟨he,R⟩;cases hth:zN x.l i y
 .rw[hth]at he
  subst he;have f6:=O hth;clear hth;have D:=Q.go R;obtain⟨_,_,_,_,_,_,c6,c7,_⟩:=D.cells;have h8:=D.lt;have C:=I F R;have kg:=(C.cell (p:=⟨b1,off+i*22+13,none⟩) hlt).trans Kg;have h0:b1<B.heap.size:=eb hlt C.size;have a3:=O D;have r:=O C;clear D C R;cases hem:y.s.gA.toList.isEmpty
  .obtain⟨u,g,b8,d9,a4⟩:=f5 f6 hem
   have g2:u<gn:=by rw[<- a1.1];exact(TG.1 b8).1
   have f1:gn<=40:=by rw[<- a1.1];exact b2.len
   have b0:=O b8;have c3:=O a4;have f4:=O d9;clear b8 a4 d9;go_wp2_with fail;rw[<- f4];refine(ER cl ga gn gc u g B (a1.go wl r) b2 b0).mono ?_;rintro e w3 ⟨rfl,M⟩;have c8:=O (a3.go M);have a0:=O (I r M);clear M c6 c7 kg a3 r;go_wp2
   go_loopw [12,13] (fun ov iv wr=>∃(j:Nat)(qs:List Int),j<=m/\iv=.int .i64 (j:Int)/\wr.ownsRow (w+1) 3 1 ov j (qs.map (Value.int .i64))/\xg qs/\kr wr w 37 x f ⟨va,m,vc⟩ ⟨some ⟨b1,off,none⟩,n,sc⟩ k/\Below w w wr) (fun _ iv _=>m-(intOf iv).toNat)
   case atStart=>exact⟨0,[],by omega,rfl,World.ownsRow_nil _ _ _ _,(fun z h=>by cases h),c8,a0⟩
   case round=>
    clear c8 a0;obtain⟨j,qs,hj,rfl,ho,e2,hg,hb⟩:=hrel;obtain⟨_,_,_,_,_,_,c6,c7,_⟩:=hg.cells;have hl:=hg.lt;have g0:=hb.size;have Ho:=O ho;have d0:=O e2;have Hg:=O hg;have Hb:=O hb;clear ho e2 hg hb;by_cases h6:j<m
    .obtain⟨g5,g3,a5,A,S,d8⟩:=c3 j (by rw[f7];omega)
     obtain⟨b3,o3,e3,c5,d4⟩:=(Hx.go Hb).ws.2.2 (by show 0<m;omega);simp only at e3;subst e3;have x0:=d4 (j*2) (by show j*2<m*2;omega);obtain⟨b4,E,q4,h5,e4,a,e0,⟨rfl,h3⟩,t⟩:=(a1.go wl Hb).at g2;rw[b0]at e0;cases e0;subst e4;have z0:=t 0 _ rfl;have z1:=t 1 _ rfl;have z2:=t 2 _ rfl;have z3:=t 3 _ rfl;have z4:=t 4 _ rfl;have z5:=t 5 _ rfl;have z6:=t 6 _ rfl;have z7:=t 7 _ rfl;have z8:=t 8 _ rfl;have z9:=t 9 _ rfl;rw[bE]at z0;generalize x.ws.getD (j*2) 0=L at*;have b5:=O d8;have c4:=O a5;clear d8 a5 t d4;have g7:=O (b2.ok g (aL b0));go_upto_region 12 with fail;refine ic 14 [13] [] [(0,true),(1,true),(2,true),(3,true),(4,true),(5,true),(6,true),(7,true),(8,true),(9,true),(10,false),(11,true),(12,true),(13,true)] (by kernel_rfl) (by kernel_rfl) ⟨by simp,by simp,fun _ h=>by cases h⟩ (fun _ _ _ _ _ h=>h) (fun _ _ o _ _ h=>by cases o<;>exact h) ?_
     iterate 10
      refine gZ (v:=?_) ?_ ?_;rotate_left
      .intro y d
       have y0:=(d.cell (p:=⟨b4,E+u*10,none⟩) a).trans z0;have y1:=(d.cell (p:=⟨b4,E+u*10+1,none⟩) a).trans z1;have y2:=(d.cell (p:=⟨b4,E+u*10+2,none⟩) a).trans z2;have y3:=(d.cell (p:=⟨b4,E+u*10+3,none⟩) a).trans z3;have y4:=(d.cell (p:=⟨b4,E+u*10+4,none⟩) a).trans z4;have y5:=(d.cell (p:=⟨b4,E+u*10+5,none⟩) a).trans z5;have y6:=(d.cell (p:=⟨b4,E+u*10+6,none⟩) a).trans z6;have y7:=(d.cell (p:=⟨b4,E+u*10+7,none⟩) a).trans z7;have y8:=(d.cell (p:=⟨b4,E+u*10+8,none⟩) a).trans z8;have y9:=(d.cell (p:=⟨b4,E+u*10+9,none⟩) a).trans z9;have i1:=(d.cell (p:=⟨w.heap.size,6,none⟩) hl).trans c6;have i2:=(d.cell (p:=⟨b3,o3+j*2,none⟩) c5).trans x0;go_simp;with_reducible rfl
      try simp only[V]
     clear x0 z0 z1 z2 z3 z4 z5 z6 z7 z8 z9;refine iK (fun xa e7 K hK=>?_);go_simp;obtain⟨T,hT⟩:=tV (((S+1)/2:Nat):Int);have c0:=HZ g L xa g7 g5 g3 c4 A S b5;rw[<- hT]at c0
     have d1:10000000<=T/\T<=40000000:=by
      have:=b5.lo;have:=b5.hi;omega
     have f2:=O d1;clear hT d1;refine c0.mono ?_;clear c0;rintro e w5 ⟨rfl,b7⟩;refine hK _ _ b7 ?_;clear hK K;(try simp only[V]);have c1:=gJ (k:=1) e7;have a9:=O (c1.trans (b7.mono c1.size));clear e7 c1 b7
     iterate 2
      refine gZ (v:=?_) ?_ ?_;rotate_left
      .intro y d
       skip;go_simp;with_reducible rfl
      try simp only[V]
     iterate 1
      refine iy (v:=?_) ?_ ?_;rotate_left
      .intro y
       go_simp;with_reducible rfl
      try simp only[V]
     refine jV rfl (fun w6 W=>?_);have X:=a9.trans (W.mono a9.size);have c9:=O (Hg.go X);have a8:=O (I Hb X);have b6:=O (kD Ho X);have g9:w.heap.size<=w6.heap.size:=af g0 X.size;have h9:w.heap.size<w6.heap.size:=c9.lt;clear X W a9 c6 c7
     go_wp2_with(refine je underlying109 Tryz.infoInt1 rfl (by omega) (by omega) rfl (.tmp 70) (.tmp 72) rfl (w+1) _ j qs rfl (b6.alloc _) (fun _=>True) _ 1 1 [T] rfl (uC rfl rfl rfl) (fun e=>by cases e) (by omega) (by simp;omega) ?_;intro v' w4 N c;have a7:=O N;have H:=O c;clear N c)
     have e1:=(jI (base:=w.heap.size+1) b6 H (b:=w.heap.size) (by omega) (by omega)).trans c9;have E3:=O (jF a8 b6 H (by omega) (by omega));have E1:=O e1;clear e1
     go_roundw
     case rel=>exact⟨j+1,_,by omega,by go_num,a7,(fun z P=>by
      obtain P|P:=bj.1 P
      .exact d0 z P
      .obtain rfl:=aK.1 P;exact f2),E1,E3⟩
     case measure=>simp[intOf];omega
    .obtain rfl:j=m:=by omega
     obtain⟨oa,oc,e,h1,h2⟩:=lc Ho;subst e;go_wp2;go_ret2;exact⟨oa,oc,qs,rfl,h2.kept (gN.refl _ _) (fun b h=>⟨by have:=h.1;omega,h.2⟩),h1,d0,Hb⟩
  .go_wp2_with fail
   refine(Jx m B (by omega)).mono ?_;rintro e w3 ⟨ov,qs,rfl,ho,rfl,M⟩;obtain⟨oa,oc,rfl,h1,h2⟩:=lc ho;have Ho:=O h2;have a0:=O M;have Hc:=O h1;clear h1 h2 ho M;go_wp2;go_ret2;exact⟨oa,oc,_,rfl,Ho.kept (gN.refl _ _) (fun b h=>⟨by have:=h.1;have:=r.size;omega,h.2⟩),Hc,EU m,I r a0⟩
 .rw[hth]at he
  subst he;have r:=O (I F R);clear R
  go_wp2_with(refine je underlying109 Tryz.infoInt1 rfl (by omega) (by omega) rfl (.tmp 19) (.tmp 20) rfl B (.slice (J (B.heap.size)) 0 0) 0 [] rfl (World.ownsRow_made B #[] 0 (ag _) (by simp) rfl) (fun b=>b<B.heap.size) za m zc zs rfl (Hz.kept ((gE r).trans (gE ((TH B B).alloc (ag _) _)|>.mono (fun b h=>eb h r.size))) (fun b h=>eb h r.size)) f8 (by omega) (by simp) ?_;intro v' w6 a6 c;obtain⟨a',c',rfl,d3,hi⟩:=lc a6;have W:Below B B w6:=((TH _ _).alloc (ag _) _).grown c (by simp) (by intro k hk;simp[Value.ownBlock]at hk;omega);clear a6 c;have Hi:=O hi;have Hc:=O d3;have a8:=O W;clear hi d3 W)
  have d7:IRp (fun b=>B.heap.size<=b/\b<w6.heap.size) w6 1 a' m c' zs:=by have k:=Hi.out;rw[aV]at k;exact k
  have f3:=O d7;clear d7;go_ret2;exact⟨a',c',zs,by simp,f3.kept (gN.refl _ _) (fun b h=>⟨af r.size h.1,h.2⟩),Hc,f9,I r a8⟩
