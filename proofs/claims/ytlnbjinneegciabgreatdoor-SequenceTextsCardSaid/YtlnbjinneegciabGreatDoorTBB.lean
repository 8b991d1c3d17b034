import Derived.Test.YtlnbjinneegciabGreatDoorTAY
import Derived.Test.YtlnbjinneegciabGreatDoorTAX
import Derived.Test.YtlnbjinneegciabGreatDoorTAZ
import Derived.Test.YtlnbjinneegciabGreatDoorTBA
namespace Go.Proofs.YtlnbjinneegciabGreatDoor
set_option linter.all false
set_option maxRecDepth 100000
set_option maxHeartbeats 12800000
open Go.RowKit Go.Proofs.Tryz
structure OS (w:World) (x:rz) (c:Int) (s f v k:iJ) (n:Nat->Int) (wx:World):Prop where
 d:Sj wx w x c s f v k
 a:Ik wx (w+1) n
 b:Below w w wx
def OS.go{w e g:World}{x:rz}{c:Int}{s f v k:iJ}{n:Nat->Int}(h:OS w x c s f v k n e)(hb:Below e e g):OS w x c s f v k n g:=
 ⟨(hb.block _ (TK h.d)).trans h.d,(hb.block _ (TK h.a)).trans h.a,I h.b hb⟩
def Sj.cells{w:World}{g:Nat}{x:rz}{c:Int}{s f v k:iJ}(h:Sj w g x c s f v k):w.cell? (J g)=some (.slice s.a s.n s.c)/\w.cell? ⟨g,1,none⟩=some (.int .u8 x.stop)/\w.cell? ⟨g,2,none⟩=some (.int .u16 x.far)/\w.cell? ⟨g,3,none⟩=some (.int .u8 x.pb)/\w.cell? ⟨g,4,none⟩=some (.slice f.a f.n f.c)/\w.cell? ⟨g,5,none⟩=some (.slice v.a v.n v.c)/\w.cell? ⟨g,6,none⟩=some (.int .u8 x.p9)/\w.cell? ⟨g,7,none⟩=some (.int .i16 x.il)/\w.cell? ⟨g,8,none⟩=some (.slice k.a k.n k.c)/\w.cell? ⟨g,9,none⟩=some (.int .u8 c):=
 ⟨(VV h 0).trans rfl,(VV h 1).trans rfl,(VV h 2).trans rfl,(VV h 3).trans rfl,(VV h 4).trans rfl,(VV h 5).trans rfl,(VV h 6).trans rfl,(VV h 7).trans rfl,(VV h 8).trans rfl,(VV h 9).trans rfl⟩
def ZU(w t:List UInt8):bs (w++[32])++bs t++bs [10]=bs (iF [w,t]):=by simp[oQ,iF,nN]
def YF(w a b:List UInt8):(iF [w,a,b]).length=w.length+a.length+b.length+3:=by simp[iF,nN];omega
def ZV(d a b c:List UInt8):bs d++bs (vA++[32])++bs a++bs (10::(Aa++[32]))++bs b++bs (10::(qJ++[32]))++bs c++bs [10]=bs (d++iF [vA,a]++iF [Aa,b]++iF [qJ,c]):=by simp[oQ,iF,nN]
structure ZA (w:World) (x:gR) (f v s k:iJ) (W:World):Prop where
 l9:kr W w 37 x f v s k
 be:Below w w W
def ZA.go{w:World}{x:gR}{f v s k:iJ}{W W':World}(h:ZA w x f v s k W)(hb:Below W W W'):ZA w x f v s k W':=⟨kr.go h.l9 hb,I h.be hb⟩
def Zi(x:gR)(f v s k:iJ)(w:World)(hx:iP (fun b=>b<w.heap.size) w x f v s k)(hv:iI x=true)(t:(nO x).length<=1000000):
 Calls prog 19 #[jG x f v s k] w (iZ w (.string (bs (nO x)))):=by
 have b7:=(TH w.heap.size w).alloc (ag _) (.cells (iw x f v s k).toArray 37);have d2:kr (w.alloc (.cells (iw x f v s k).toArray 37)) w.heap.size 37 x f v s k:=TL w _;have d3:=uH hv
 have e7:∀k,k<=10->(Yw x k).length<=1000000:=fun k hk=>by
  have h1:=Yq x k (10-k);rw[Yn]at t;rw[show k+(10-k)=10 by omega]at h1;omega
 have h6:∀k,k<10->(G x k).length<=1000000:=fun k hk=>by
  have:=e7 (k+1) (by omega);rw[Yw,al]at this;omega
 obtain⟨NV,d5⟩:∃v,v=YX:=⟨_,rfl⟩
 have h4:∀w,Calls prog 44 #[] w (iZ w NV):=fun w=>by rw[d5];exact YH w
 have b1:∀q:Nat,1<=q->q<=17-> ∀y,(Instr.index 131 NV (.int .i64 ((q:Int)-1))).run prog y=.ok (.string (bs (km q))) y:=fun q h1 h2 y=>by
  rw[d5,show(q:Int)-1=((q-1:Nat):Int)by omega];exact YE (q-1) (by omega) y
 have R:=O hx;have b2:=O b7;have c6:=O d2;have A:=O d3;have a6:=O e7;have b5:=O h6;have i7:=O h4;have i6:=O b1;clear hx b7 d2 d3 e7 h6 h4 b1 t hv d5;unfold jG;go_enter func19,ntmps19;go_upto_region 1 with fail;refine gI (ZA w x f v s k) ⟨c6,b2⟩ ?_;clear c6 b2;rintro w1 c5;have b6:=O c5;clear c5
 have cc:w1.cell? (J (w.heap.size))=some (.string (bs (VX x.nm))):=by rw[qO];exact VV b6.l9 0
 have cd:w1.cell? ⟨w.heap.size,1,none⟩=some (.int .i64 x.i9):=VV b6.l9 1;have h1:iF [xZ,VX x.nm]=Yw x 1:=rfl;have a8:=b5 0 (by decide)
 change (iF [xZ,VX x.nm]).length<=1000000 at a8
 rw[nB]at a8;have H1:=O h1;clear h1;generalize VX x.nm=nm at*
 go_upto_if 16 with fail
 have e2:({data:=#[108,101,110,115,32]}:ByteArray)++bs nm++({data:=#[10]}:ByteArray)=bs (Yw x 1):=(ZU xZ nm).trans (by rw[H1]);rw[e2];clear e2 cc a8
 go_cut [3] (fun v3 wx=>v3=.string (bs (Yw x 2))/\ZA w x f v s k wx)
 case first=>
  have hu:Yw x 2=Yw x 1++iF [sO,DQ x]:=rfl;have hj:=a6 1 (by decide);have a8:=b5 1 (by decide)
  change (iF [sO,DQ x]).length<=1000000 at a8
  by_cases b0:x.i9=0
  .have ho:DQ x=lQ:=by unfold DQ;rw[aq b0]
   have hx:(x.i9==0)=true:=by simpa using b0
   have Ho:=O ho;have Hu:=O hu;clear ho b0 hu a8;simp only[hx];go_wp2;go_meet;exact⟨ai Value.string ((oQ (Yw x 1) (iF [sO,lQ])).trans (by rw[Hu,Ho])),b6⟩
  .have ho:DQ x=iz x.i9 6:=by unfold DQ;rw[aj b0]
   have hx:(x.i9==0)=false:=by simpa using b0
   have c1:=A.i9;rw[ho,nB]at a8;have Ho:=O ho;have Hu:=O hu;clear ho b0 hu;simp only[hx]
   go_wp2_with(refine(kz x.i9 6 _ (by omega) (by omega) (by decide)).mono ?_;rintro _ w4 ⟨rfl,hb⟩;have Hb:=O hb;clear hb)
   go_meet;exact⟨ai Value.string ((YO (Yw x 1) sO (iz x.i9 6)).trans (by rw[Hu,Ho])),b6.go Hb⟩
 case rest=>
  obtain⟨rfl,c5⟩:=hcut;have Q:=O c5;clear c5 cd b6;have c2:wc.cell? ⟨w.heap.size,2,none⟩=some (.int .i64 x.pb):=VV Q.l9 2;have c3:wc.cell? ⟨w.heap.size,3,none⟩=some (.int .i64 x.stop):=VV Q.l9 3;have c4:wc.cell? ⟨w.heap.size,4,none⟩=some (.int .i64 x.p9):=VV Q.l9 4;have a4:=Q.l9.lt;have r2:=A.pb;have r3:=A.stop;have r4:=A.p9;have hj:=a6 2 (by decide);have p2:=b5 2 (by decide);have p3:=b5 3 (by decide);have p4:=b5 4 (by decide)
  change (iF [vA,iz x.pb 6]).length<=1000000 at p2
  change (iF [Aa,iz x.stop 0]).length<=1000000 at p3
  change (iF [qJ,iz x.p9 0]).length<=1000000 at p4
  rw[nB]at p2 p3 p4;have hu:Yw x 5=Yw x 2++iF [vA,iz x.pb 6]++iF [Aa,iz x.stop 0]++iF [qJ,iz x.p9 0]:=rfl;have Hu:=O hu;clear hu;go_upto_region 5 with fail
  have E:=fun w=>kz x.pb 6 w (by omega) (by omega) (by decide)
  have D0:=O E;clear E
  have F:=fun w=>kz x.stop 0 w (by omega) (by omega) (by decide)
  have D1:=O F;clear F
  have g3:=fun w=>kz x.p9 0 w (by omega) (by omega) (by decide)
  have D2:=O g3;clear g3;generalize iz x.pb 6=t0 at*;generalize iz x.stop 0=t1 at*;generalize iz x.p9 0=t2 at*;generalize Yw x 2=Jq0 at*;refine gS 17 [(0,true),(1,true),(2,true),(3,true),(7,true),(8,true),(12,true),(13,true),(4,false),(5,true),(6,true),(9,false),(10,true),(11,true),(14,false),(15,true),(16,true)] (by kernel_rfl) (by kernel_rfl) ?_
  iterate 8
   refine gU (v:=?_) ?_ ?_;rotate_left
   .intro y o
    have k1:=(o.cell (p:=⟨w.heap.size,2,none⟩) a4).trans c2;have k2:=(o.cell (p:=⟨w.heap.size,3,none⟩) a4).trans c3;have k3:=(o.cell (p:=⟨w.heap.size,4,none⟩) a4).trans c4
    have y0:¬9223372036854775807<Jq0.length+6:=by omega
    go_simp;with_reducible rfl
   try simp only[V]
  clear c2 c3 c4;refine gP (fun B g=>?_);go_simp;refine(D0 _).mono ?_;rintro _ wa ⟨rfl,d⟩;refine g _ _ d ?_;clear g B;try simp only[V]
  iterate 2
   refine gU (v:=?_) ?_ ?_;rotate_left
   .intro y o
    have y0:¬9223372036854775807<Jq0.length+6+t0.length:=by omega
    have y1:¬9223372036854775807<Jq0.length+6+t0.length+6:=by omega
    go_simp;with_reducible rfl
   try simp only[V]
  refine gP (fun B g=>?_);go_simp;refine(D1 _).mono ?_;rintro _ wb ⟨rfl,e⟩;refine g _ _ e ?_;clear g B;try simp only[V]
  iterate 2
   refine gU (v:=?_) ?_ ?_;rotate_left
   .intro y o
    have y0:¬9223372036854775807<Jq0.length+6+t0.length+6+t1.length:=by omega
    have y1:¬9223372036854775807<Jq0.length+6+t0.length+6+t1.length+9:=by omega
    go_simp;with_reducible rfl
   try simp only[V]
  refine gP (fun B g=>?_);go_simp;refine(D2 _).mono ?_;rintro _ wd ⟨rfl,r⟩;refine g _ _ r ?_;clear g B;try simp only[V]
  iterate 2
   refine gU (v:=?_) ?_ ?_;rotate_left
   .intro y o
    have y0:¬9223372036854775807<Jq0.length+6+t0.length+6+t1.length+9+t2.length:=by omega
    have y1:¬9223372036854775807<Jq0.length+6+t0.length+6+t1.length+9+t2.length+1:=by omega
    go_simp;with_reducible rfl
   try simp only[V]
  refine iu rfl ?_;have e5:bs Jq0++({data:=#[112,117,112,105,108,32]}:ByteArray)++bs t0++({data:=#[10,115,116,111,112,32]}:ByteArray)++bs t1++({data:=#[10,112,114,105,109,97,114,121,32]}:ByteArray)++bs t2++({data:=#[10]}:ByteArray)=bs (Yw x 5):=(ZV Jq0 t0 t1 t2).trans (by rw[Hu]);rw[e5];have c8:=O (Q.go (gJ (k:=1) (I d (I e r))));clear e5 d e r Q D0 D1 D2 r2 r3 r4 p2 p3 p4 hj Hu a4;obtain⟨W,M⟩:∃W,f.a=W:=⟨_,rfl⟩;have u:=O M;clear M
  have L:x.fs.length/2=f.n:=by have:x.fs.length=f.n*2:=R.fs.1;omega
  have h3:f.n<=f.c:=R.fs.2.1;have h0:f.n<=1000000:=R.fn;have H:=O L;clear L;go_wp2
  go_loopw [3,4] (fun sv D wr=>∃j:Nat,j<=f.n/\D=.int .i64 (j:Int)/\sv=.string (bs (Yw x 5++((List.range j).map (nE x.fs)).flatten))/\ZA w x f v s k wr) (fun _ D _=>f.n-(intOf D).toNat)
  case atStart=>exact⟨0,aA _,rfl,by simp,c8⟩
  case round=>
   obtain⟨j,hj,rfl,rfl,P⟩:=hrel;have m:=O P;clear P
   have cl:wr.cell? ⟨w.heap.size,5,none⟩=some (.slice W f.n f.c):=by rw[<- u];exact VV m.l9 5
   by_cases X:j<f.n
   .obtain⟨b,off,b8,d6,z0,z1⟩:=((R.fs.ir (N:=w.heap.size) (fun _ h=>h)).below m.be (ag _)).at2 X
    obtain rfl:=u.symm.trans b8;clear b8;have c1:=A.fs j (by have:=H.out;omega);have C:nE x.fs j=iF [vB,iz (x.fs.getD (j*2) 0) 6,iz (x.fs.getD (j*2+1) 0) 6]:=rfl;have b9:=Yj x 5 (by decide) (by show(((List.range (x.fs.length/2)).map (nE x.fs)).flatten)=_;rw[H]) (Yv (nE x.fs) X) a6;rw[C,<- aC,al,YF]at b9;have a3:=nA (nE x.fs) j;have a7:b<wr.heap.size:=eb d6 m.be.size;have a4:=m.l9.lt;have a5:=O C;have b4:=O a3;clear C a3;generalize x.fs.getD (j*2) 0=q0 at*;generalize x.fs.getD (j*2+1) 0=q1 at*
    have E:=fun w=>kz q0 6 w (by omega) (by omega) (by decide)
    have D0:=O E;clear E
    have F:=fun w=>kz q1 6 w (by omega) (by omega) (by decide)
    have D1:=O F;clear F;generalize iz q0 6=t0 at*;generalize iz q1 6=t1 at*;generalize hJ:Yw x 5++((List.range j).map (nE x.fs)).flatten=Jq0 at*;have HJ:=O hJ;clear hJ;go_upto_region 9 with fail;refine gS 20 [(0,true),(1,true),(2,true),(3,true),(4,true),(5,true),(6,true),(7,true),(11,true),(12,true),(13,true),(14,true),(15,true),(16,true),(8,false),(9,true),(10,true),(17,false),(18,true),(19,true)] (by kernel_rfl) (by kernel_rfl) ?_
    iterate 14
     refine gU (v:=?_) ?_ ?_;rotate_left
     .intro y o
      have k1:=(o.cell (p:=⟨w.heap.size,5,none⟩) a4).trans cl;have k2:=(o.cell (p:=⟨b,off+j*2,none⟩) a7).trans z0;have k3:=(o.cell (p:=⟨b,off+j*2+1,none⟩) a7).trans z1
      have y0:¬9223372036854775807<Jq0.length+6:=by omega
      go_simp;with_reducible rfl
     try simp only[V]
    clear z0 z1;refine gP (fun B g=>?_);go_simp;refine(D0 _).mono ?_;rintro _ wa ⟨rfl,d⟩;refine g _ _ d ?_;clear g B;try simp only[V]
    iterate 2
     refine gU (v:=?_) ?_ ?_;rotate_left
     .intro y o
      have y0:¬9223372036854775807<Jq0.length+6+t0.length:=by omega
      have y1:¬9223372036854775807<Jq0.length+6+t0.length+1:=by omega
      go_simp;with_reducible rfl
     try simp only[V]
    refine gP (fun B g=>?_);go_simp;refine(D1 _).mono ?_;rintro _ wb ⟨rfl,e⟩;refine g _ _ e ?_;clear g B;try simp only[V]
    iterate 2
     refine gU (v:=?_) ?_ ?_;rotate_left
     .intro y o
      have y0:¬9223372036854775807<Jq0.length+6+t0.length+1+t1.length:=by omega
      have y1:¬9223372036854775807<Jq0.length+6+t0.length+1+t1.length+1:=by omega
      go_simp;with_reducible rfl
     try simp only[V]
    refine iu rfl ?_;have a1:=gJ (k:=1) (I d e);have a9:=O a1;clear a1 d e cl;go_wp2
    go_roundw
    case rel=>exact⟨j+1,by omega,by go_num,ai Value.string ((Zm Jq0 vB t0 t1).trans (by rw[b4,<- aC,HJ,a5])),m.go a9⟩
    case measure=>simp[intOf];omega
   .obtain rfl:j=f.n:=by omega
    have e8:Yw x 5++((List.range f.n).map (nE x.fs)).flatten=Yw x 6:=by rw[<- H];rfl
    rw[e8];have c9:=O m.out;clear e8 m u c8;obtain⟨W,M⟩:∃W,v.a=W:=⟨_,rfl⟩;have u:=O M;clear M
    have L:x.ws.length/2=v.n:=by have:x.ws.length=v.n*2:=R.ws.1;omega
    have h3:v.n<=v.c:=R.ws.2.1;have h0:v.n<=1000000:=R.wn;have H:=O L;clear L;go_wp2_with fail;clear cl
    go_loopw [3,5] (fun sv D wr=>∃j:Nat,j<=v.n/\D=.int .i64 (j:Int)/\sv=.string (bs (Yw x 6++((List.range j).map (qK x.ws)).flatten))/\ZA w x f v s k wr) (fun _ D _=>v.n-(intOf D).toNat)
    case atStart=>exact⟨0,aA _,rfl,by simp,c9⟩
    case round=>
     obtain⟨j,hj,rfl,rfl,P⟩:=hrel;have m:=O P;clear P
     have cl:wr.cell? ⟨w.heap.size,6,none⟩=some (.slice W v.n v.c):=by rw[<- u];exact VV m.l9 6
     by_cases X:j<v.n
     .obtain⟨b,off,b8,d6,z0,z1⟩:=((R.ws.ir (N:=w.heap.size) (fun _ h=>h)).below m.be (ag _)).at2 X
      obtain rfl:=u.symm.trans b8;clear b8;have c1:=A.ws j (by have:=H.out;omega);have C:qK x.ws j=iF [Ab,iz (x.ws.getD (j*2) 0) 3,iz (x.ws.getD (j*2+1) 0) 0]:=rfl;have b9:=Yj x 6 (by decide) (by show(((List.range (x.ws.length/2)).map (qK x.ws)).flatten)=_;rw[H]) (Yv (qK x.ws) X) a6;rw[C,<- aC,al,YF]at b9;have a3:=nA (qK x.ws) j;have a7:b<wr.heap.size:=eb d6 m.be.size;have a4:=m.l9.lt;have a5:=O C;have b4:=O a3;clear C a3;generalize x.ws.getD (j*2) 0=q0 at*;generalize x.ws.getD (j*2+1) 0=q1 at*
      have E:=fun w=>kz q0 3 w (by omega) (by omega) (by decide)
      have D0:=O E;clear E
      have F:=fun w=>kz q1 0 w (by omega) (by omega) (by decide)
      have D1:=O F;clear F;generalize iz q0 3=t0 at*;generalize iz q1 0=t1 at*;generalize hJ:Yw x 6++((List.range j).map (qK x.ws)).flatten=Jq0 at*;have HJ:=O hJ;clear hJ;go_upto_region 13 with fail;refine gS 20 [(0,true),(1,true),(2,true),(3,true),(4,true),(5,true),(6,true),(7,true),(11,true),(12,true),(13,true),(14,true),(15,true),(16,true),(8,false),(9,true),(10,true),(17,false),(18,true),(19,true)] (by kernel_rfl) (by kernel_rfl) ?_
      iterate 14
       refine gU (v:=?_) ?_ ?_;rotate_left
       .intro y o
        have k1:=(o.cell (p:=⟨w.heap.size,6,none⟩) a4).trans cl;have k2:=(o.cell (p:=⟨b,off+j*2,none⟩) a7).trans z0;have k3:=(o.cell (p:=⟨b,off+j*2+1,none⟩) a7).trans z1
        have y0:¬9223372036854775807<Jq0.length+5:=by omega
        go_simp;with_reducible rfl
       try simp only[V]
      clear z0 z1;refine gP (fun B g=>?_);go_simp;refine(D0 _).mono ?_;rintro _ wa ⟨rfl,d⟩;refine g _ _ d ?_;clear g B;try simp only[V]
      iterate 2
       refine gU (v:=?_) ?_ ?_;rotate_left
       .intro y o
        have y0:¬9223372036854775807<Jq0.length+5+t0.length:=by omega
        have y1:¬9223372036854775807<Jq0.length+5+t0.length+1:=by omega
        go_simp;with_reducible rfl
       try simp only[V]
      refine gP (fun B g=>?_);go_simp;refine(D1 _).mono ?_;rintro _ wb ⟨rfl,e⟩;refine g _ _ e ?_;clear g B;try simp only[V]
      iterate 2
       refine gU (v:=?_) ?_ ?_;rotate_left
       .intro y o
        have y0:¬9223372036854775807<Jq0.length+5+t0.length+1+t1.length:=by omega
        have y1:¬9223372036854775807<Jq0.length+5+t0.length+1+t1.length+1:=by omega
        go_simp;with_reducible rfl
       try simp only[V]
      refine iu rfl ?_;have a1:=gJ (k:=1) (I d e);have a9:=O a1;clear a1 d e cl;go_wp2
      go_roundw
      case rel=>exact⟨j+1,by omega,by go_num,ai Value.string ((Zm Jq0 Ab t0 t1).trans (by rw[b4,<- aC,HJ,a5])),m.go a9⟩
      case measure=>simp[intOf];omega
     .obtain rfl:j=v.n:=by omega
      have e8:Yw x 6++((List.range v.n).map (qK x.ws)).flatten=Yw x 7:=by rw[<- H];rfl
      rw[e8];have d0:=O m.out;clear e8 m u c9;obtain⟨W,M⟩:∃W,s.a=W:=⟨_,rfl⟩;have u:=O M;clear M;have L:x.l.length=s.n:=R.l.1;have h3:s.n<=s.c:=R.l.2.1;have h0:s.n<=1000000:=R.sn;have H:=O L;clear L;go_wp2_with fail;clear cl
      go_loopw [3,6] (fun sv D wr=>∃j:Nat,j<=s.n/\D=.int .i64 (j:Int)/\sv=.string (bs (Yw x 7++((x.l.take j).map oq).flatten))/\ZA w x f v s k wr) (fun _ D _=>s.n-(intOf D).toNat)
      case atStart=>exact⟨0,aA _,rfl,by simp,d0⟩
      case round=>
       obtain⟨j,hj,rfl,rfl,P⟩:=hrel;have m:=O P;clear P
       have cl:wr.cell? ⟨w.heap.size,7,none⟩=some (.slice W s.n s.c):=by rw[<- u];exact VV m.l9 7
       by_cases X:j<s.n
       .obtain⟨b,off,y,cs,h9,hlt,o,⟨a2,n2,c2,rfl,hz,g9,d7,e6⟩,hr⟩:=R.l.at X
        obtain rfl:=u.symm.trans h9;clear h9;have h8:=jb (S:=fun b=>b<w.heap.size) hr (gE m.be) hlt;have h5:=A.l y (aL o);have t:=Yj x 7 (by decide) rfl (Yf oq x.l o) a6;rw[<- aC,al]at t;have C:=CA oq x.l o
        have i0:=fun w' (h:Below wr wr w')=>YS y a2 n2 c2 w' h5 ((hz.ir (N:=w.heap.size) (fun _ h'=>h')).go (I m.be h)) g9 (by omega)
        have Hr:=O h8;have j1:=O i0;have a5:=O C;clear hr h8 h5 o hz d7 e6 i0 C;generalize oq y=T at*;generalize hJ:Yw x 7++((x.l.take j).map oq).flatten=Jq0 at*;have HJ:=O hJ;clear hJ
        go_wp2_with(first
         |(refine lw Hr rfl (.tmp 108) rfl rfl ?_)
         |((with_reducible refine(j1.out _ (TH _ _)).mono ?_);rintro _ w9 ⟨rfl,hb⟩;have Hb:=O hb;clear hb))
        go_roundw
        case rel=>exact⟨j+1,by omega,by go_num,ai Value.string ((oQ Jq0 T).trans (by rw[a5,<- aC,HJ])),m.go Hb⟩
        case measure=>simp[intOf];omega
       .obtain rfl:j=s.n:=by omega
        have e8:Yw x 7++((x.l.take s.n).map oq).flatten=Yw x 8:=by rw[aM (by rw[H];exact ag _)];rfl
        rw[e8];have f6:=O m.out;clear e8 m u d0;obtain⟨W,M⟩:∃W,k.a=W:=⟨_,rfl⟩;have u:=O M;clear M;have L:x.cf.length=k.n:=R.cf.1;have j3:k.n<=k.c:=R.cf.2.1;have j7:k.n<=1000000:=R.kn;have H:=O L;clear L;go_wp2_with fail;clear cl
        go_loopw [3,7,8] (fun sv D v8 wr=>∃j:Nat,j<=k.n/\D=.int .i64 (j:Int)/\sv=.string (bs (Yw x 8++((x.cf.take j).map ot).flatten))/\ZA w x f v s k wr) (fun _ D _ _=>k.n-(intOf D).toNat)
        case atStart=>exact⟨0,aA _,rfl,by simp,f6⟩
        case round=>
         obtain⟨j,hj,rfl,rfl,P⟩:=hrel;have m:=O P;clear P
         have cl:wr.cell? ⟨w.heap.size,8,none⟩=some (.slice W k.n k.c):=by rw[<- u];exact VV m.l9 8
         by_cases X:j<k.n
         .obtain⟨b,off,y,cs,g8,hlt,o,⟨a2,n2,c2,rfl,hz,g9,d7,e6⟩,hr⟩:=R.cf.at X
          obtain rfl:=u.symm.trans g8;clear g8;have a7:b<wr.heap.size:=eb hlt m.be.size
          have r0:wr.cell? ⟨b,off+j*2,none⟩=some (.string (bs (VX y.nm))):=by rw[qO];exact(m.be.cell (p:=⟨b,off+j*2,none⟩) hlt).trans (hr 0 _ rfl)
          have r1:wr.cell? ⟨b,off+j*2+1,none⟩=some (.slice a2 n2 c2):=(m.be.cell (p:=⟨b,off+j*2+1,none⟩) hlt).trans (hr 1 _ rfl)
          have d8:y.zs.length/3=n2:=by have h1:y.zs.length=n2*3:=hz.1;omega
          have j4:n2<=c2:=hz.2.1;have c1:=A.cf y (aL o)
          have d9:ot y=iF [mc,VX y.nm]++((List.range n2).map (mK y.zs)).flatten:=by rw[<- d8];rfl
          have t:=Yj x 8 (by decide) rfl (Yf ot x.cf o) a6;rw[d9]at t;simp only[<- aC]at t;have f9:=Yk t;rw[al,nB]at f9;have C:=CA ot x.cf o;have i3:=O d9;have Hz:=O (hz.ir (N:=w.heap.size) (fun _ h=>h));have d4:=O t;have j0:=O c1;have i2:=O d8;have a5:=O C;clear hr o hz t d7 e6 d9 c1 d8 C;generalize VX y.nm=nmL at*;generalize hJ:Yw x 8++((x.cf.take j).map ot).flatten=Jq0 at*;have HJ:=O hJ;clear hJ;go_wp2_with fail;have e4:bs Jq0++({data:=#[99,111,110,102,105,103,32]}:ByteArray)++bs nmL++({data:=#[10]}:ByteArray)=bs (Jq0++iF [mc,nmL]):=YO Jq0 mc nmL;rw[e4];clear e4 cl r0;have f5:=O (show ZA w x f v s k wr/\Below wr wr wr from⟨m,TH _ _⟩)
          go_loopw [3,8] (fun sv D wi=>∃i:Nat,i<=n2/\D=.int .i64 (i:Int)/\sv=.string (bs (Jq0++iF [mc,nmL]++((List.range i).map (mK y.zs)).flatten))/\ZA w x f v s k wi/\Below wr wr wi) (fun _ D _=>n2-(intOf D).toNat)
          case atStart=>exact⟨0,aA _,rfl,by simp,f5⟩
          case round=>
           obtain⟨i,hi,rfl,rfl,i1,g5⟩:=hrel;have c7:=O i1;have g4:=O g5;clear i1 g5
           have cl:wr.cell? ⟨w.heap.size,8,none⟩=some (.slice (some ⟨b,off,none⟩) k.n k.c):=by rw[<- u];exact VV c7.l9 8
           have q1:wr.cell? ⟨b,off+j*2+1,none⟩=some (.slice a2 n2 c2):=(g4.cell (p:=⟨b,off+j*2+1,none⟩) a7).trans r1;by_cases g7:i<n2
           .obtain⟨b3,j5,f7,j2,z0,z1,z2⟩:=(Hz.below c7.be (ag _)).at3 g7
            subst f7;obtain⟨g0,g1,g2⟩:=j0 i (by have:=i2.out;omega);obtain⟨z,f3⟩:∃z:Nat,y.zs.getD (i*3+1) 0=(z:Int)+1:=⟨(y.zs.getD (i*3+1) 0-1).toNat,by omega⟩
            have f1:1<=z+1:=by omega
            have f2:z+1<=17:=by omega
            have e3:mK y.zs i=iF [lj,iz (y.zs.getD (i*3) 0) 0,km (z+1),iz (y.zs.getD (i*3+2) 0) (oo (z+1))]:=by
             unfold mK;rw[f3,show((z:Int)+1).toNat=z+1 by omega]
            have b9:=Yi (Yv (mK y.zs) g7) d4;rw[e3,<- aC,al,YG]at b9;have a3:=nA (mK y.zs) i;rw[f3]at z1;have b1:=i6 (z+1) f1 f2
            have h7:IntKind.i64.wrap (z:Int)=(z:Int):=by have h1:=ZF f1 f2;rw[show((z+1:Nat):Int)-1=(z:Int)by omega]at h1;exact h1
            have g6:=fun w=>yb (z+1) w f1 f2
            rw[show((z+1:Nat):Int)-1=(z:Int)by omega]at b1;have d1:∀w,Calls prog 45 #[.int .i64 ((z:Int)+1)] w (iZ w (.int .i64 (oo (z+1):Int))):=g6;have f8:=yP (z+1);have i5:=O e3;have b4:=O a3;have f4:=O b1;have i8:=O h7;have i4:=O d1;clear e3 a3 b1 h7 g6 d1 f3 g1;generalize y.zs.getD (i*3) 0=q0 at*;generalize y.zs.getD (i*3+2) 0=q2 at*;generalize km (z+1)=nmP at*;generalize oo (z+1)=dg at*
            have E:=fun w=>kz q0 0 w (by omega) (by omega) (by decide)
            have D0:=O E;clear E
            have F:=fun w=>kz q2 dg w (by omega) (by omega) (f8)
            have D1:=O F;clear F;generalize iz q0 0=t0 at*;generalize iz q2 dg=t1 at*;generalize hK:Jq0++iF [mc,nmL]++((List.range i).map (mK y.zs)).flatten=K at*;have HK:=O hK;clear hK;go_upto_region 26 with fail;have c0:=TL wr (.cells #[q0,.int .i64 ((z:Int)+1),q2] 64);have b7:Below wr wr (wr.alloc (.cells #[q0,.int .i64 ((z:Int)+1),q2] 64)):=(TH _ _).alloc (ag _) _;have e0:=VV c0 0;have e1:=VV c0 1;have e2:=VV c0 2;have f0:=TK c0;have b2:=O b7;clear c0 b7 z0 z1 z2;refine gS 22 [(0,true),(1,true),(2,true),(3,true),(8,true),(9,true),(10,true),(14,true),(15,true),(16,true),(17,true),(4,false),(5,true),(6,true),(7,false),(11,true),(12,true),(13,true),(18,false),(19,false),(20,true),(21,true)] (by kernel_rfl) (by kernel_rfl) ?_
            iterate 11
             refine gU (v:=?_) ?_ ?_;rotate_left
             .intro y o
              have k1:=(o.cell (p:=J (wr.heap.size)) f0).trans e0;have k2:=(o.cell (p:=⟨wr.heap.size,1,none⟩) f0).trans e1;have k3:=(o.cell (p:=⟨wr.heap.size,2,none⟩) f0).trans e2;have kw:=i8.out
              have y0:¬9223372036854775807<K.length+7:=by omega
              go_simp;with_reducible rfl
             try simp only[V]
            clear e0 e1 e2;refine gP (fun B g=>?_);go_simp;refine(D0 _).mono ?_;rintro _ wa ⟨rfl,d⟩;refine g _ _ d ?_;clear g B;try simp only[V]
            iterate 2
             refine gU (v:=?_) ?_ ?_;rotate_left
             .intro y o
              have y0:¬9223372036854775807<K.length+7+t0.length:=by omega
              have y1:¬9223372036854775807<K.length+7+t0.length+1:=by omega
              go_simp;with_reducible rfl
             try simp only[V]
            refine gP (fun B g=>?_);go_simp;refine(i7 _).mono ?_;rintro _ wb ⟨rfl,e⟩;refine g _ _ e ?_;clear g B;try simp only[V]
            iterate 3
             refine gU (v:=?_) ?_ ?_;rotate_left
             .intro y o
              have zi:=f4 y
              have y0:¬9223372036854775807<K.length+7+t0.length+1+nmP.length:=by omega
              have y1:¬9223372036854775807<K.length+7+t0.length+1+nmP.length+1:=by omega
              go_simp;with_reducible rfl
             try simp only[V]
            refine gP (fun B g=>?_);go_simp;refine(i4 _).mono ?_;rintro _ wd ⟨rfl,r⟩;refine g _ _ r ?_;clear g B;(try simp only[V]);refine gP (fun B g=>?_);go_simp;refine(D1 _).mono ?_;rintro _ we ⟨rfl,a0⟩;refine g _ _ a0 ?_;clear g B;try simp only[V]
            iterate 2
             refine gU (v:=?_) ?_ ?_;rotate_left
             .intro y o
              have y0:¬9223372036854775807<K.length+7+t0.length+1+nmP.length+1+t1.length:=by omega
              have y1:¬9223372036854775807<K.length+7+t0.length+1+nmP.length+1+t1.length+1:=by omega
              go_simp;with_reducible rfl
             try simp only[V]
            refine iu rfl ?_;have a1:=b2.drew.trans ((I d (I e (I r a0))).mono b2.drew.size);have a9:=O a1;clear a1 d e r a0 cl q1;go_wp2
            go_roundw
            case rel=>exact⟨i+1,by omega,by go_num,ai Value.string ((Zn K lj t0 nmP t1).trans (by rw[b4,<- aC,HK,i5])),c7.go a9,I g4 a9⟩
            case measure=>simp[intOf];omega
           .obtain rfl:i=n2:=by omega
            have e9:Jq0++iF [mc,nmL]++((List.range i).map (mK y.zs)).flatten=Jq0++ot y:=by rw[i3,aC]
            rw[e9];clear e9;go_wp2
            go_roundw
            case rel=>exact⟨j+1,by omega,by go_num,by rw[a5,<- aC,HJ],c7⟩
            case measure=>simp[intOf];omega
         .obtain rfl:j=k.n:=by omega
          have e8:Yw x 8++((x.cf.take k.n).map ot).flatten=Yw x 9:=by rw[aM (by rw[H];exact ag _)];rfl
          rw[e8];have j6:=a6 9 (by decide);clear e8;go_wp2;go_ret;exact⟨ai (fun b=>Ending.returned (Value.string b)) (oQ (Yw x 9) (iF [Fp])),m.be⟩
def Zy{x:gR}(h:iI x=true):wI x=.tuple #[.string (bs (nO x)),oZ]:=by unfold wI;rw[aq h,aq h]
def Zk(x:gR)(f v s k:iJ)(w:World)(r:iP (fun b=>b<w.heap.size) w x f v s k)(d:iI x=true->(nO x).length<=1000000):
 Calls prog 7 #[jG x f v s k] w (iZ w (wI x)):=by
 have l:=(TH w w).alloc (ag _) (.cells (iw x f v s k).toArray 37);have g:kr (w.alloc (.cells (iw x f v s k).toArray 37)) w 37 x f v s k:=TL w _;have o:=O r;have j:=O l;have a:=O g;have i:=O d;clear r l g d;unfold jG;go_enter func7,ntmps7;go_upto_region 1 with fail;refine gI (ZA w x f v s k) ⟨a,j⟩ ?_;clear a j;rintro y m;have c:=O m;clear m
 go_wp2_with(refine it c.l9 rfl (.tmp 1) rfl rfl ?_)
 refine(sB x f v s k y (o.go c.be)).mono ?_;rintro e z ⟨rfl,hb⟩;have h:=O (c.go hb);clear hb c
 cases hv:iI x with
 |false=>
  have e0:wI x=.tuple #[.string ⟨#[]⟩,.int .i64 120]:=by unfold wI;rw[hv];rfl
  rw[show err false 120=.int .i64 120 from rfl];have n:=O e0;clear e0;go_wp2;go_ret2;exact⟨ai Ending.returned n.symm,h.be⟩
 |true=>
  have e0:=Zy hv;rw[show err true 120=.int .i64 0 from rfl];have p:=i hv;have q:=Zi x f v s k z (o.go h.be) hv p;have u:=O q;have n:=O e0;clear e0 q p;generalize nO x=T at*
  go_wp2_with(refine it h.l9 rfl (.tmp 1) rfl rfl ?_)
  refine u.mono ?_;rintro e A ⟨rfl,hb⟩;have t:=O (h.go hb);clear hb;go_wp2;go_ret2;exact⟨ai Ending.returned n.symm,t.be⟩
def Zr{x:gR}(h:iI x=true):1<=x.l.length:=by
 have a:iW x.stop x.l=true:=an.1 h 4 (aJ.2 (by omega));unfold iW at a;simp only[am]at a;have:=rV a.1.1.1.1;omega
structure ZG (w:World) (y:gR) (yf yv ys yk:iJ) (z:gR) (zf zv zs zk:iJ) (u:gR) (uf uv us uk:iJ) (g7 g8 g9:Nat) (wx:World):Prop where
 b7:kr wx g7 37 y yf yv ys yk
 b8:kr wx g8 37 z zf zv zs zk
 b9:kr wx g9 37 u uf uv us uk
 y:iP (fun b=>b<g9) wx y yf yv ys yk
 z:iP (fun b=>b<g9) wx z zf zv zs zk
 u:iP (fun b=>b<g9) wx u uf uv us uk
 b:Below w w wx
 lt:g7<g9/\g8<g9/\w.heap.size<=g9
def ZG.go{w:World}{y:gR}{k m ys l:iJ}{z:gR}{n p zs o:iJ}{u:gR}{f j i g:iJ}{d e a:Nat}{W W':World}(h:ZG w y k m ys l z n p zs o u f j i g d e a W)(hb:Below W W W'):ZG w y k m ys l z n p zs o u f j i g d e a W':=
 have c:gN (fun b=>b<a) W W':=(gE hb).mono fun _ q=>Nat.lt_trans q (TK h.b9)
 ⟨kr.go h.b7 hb,kr.go h.b8 hb,kr.go h.b9 hb,h.y.kept c fun _ h=>h,h.z.kept c fun _ h=>h,h.u.kept c fun _ h=>h,I h.b hb,h.lt⟩
def ZG.put{w:World}{y:gR}{r t ys s:iJ}{z:gR}{x B zs A:iJ}{u:gR}{m q o n:iJ}{k l a:Nat}{W:World}(h:ZG w y r t ys s z x B zs A u m q o n k l a W)(j:Nat)(v:Value){i:gR}{c f e d:iJ}
 (D:(iw u m q o n).toArray.setIfInBounds j v=(iw i c f e d).toArray)(E:iP (fun b=>b<a) W i c f e d):ZG w y r t ys s z x B zs A i c f e d k l a (W.setCell ⟨a,j,none⟩ v):=
 have g:gN (fun b=>b<a) W (W.setCell ⟨a,j,none⟩ v):=fun b C=>iS (Nat.ne_of_lt C)
 ⟨(iS (Nat.ne_of_lt h.lt.1)).trans h.b7,(iS (Nat.ne_of_lt h.lt.2.1)).trans h.b8,by have:=gG h.b9 j v;rwa[D]at this,
   h.y.kept g fun _ h=>h,h.z.kept g fun _ h=>h,E.kept g fun _ h=>h,h.b.setCell (p:=⟨a,j,none⟩) h.lt.2.2 v,h.lt⟩
def ZQ(y:gR)(g i ys h:iJ)(z:gR)(j l zs k:iJ)(u:gR)(b f e d:iJ):Value:=.agg #[y.nm,y.i9,y.pb,y.stop,y.p9,Z g.a g.n g.c,Z i.a i.n i.c,Z ys.a ys.n ys.c,Z h.a h.n h.c,z.nm,z.i9,z.pb,z.stop,z.p9,Z j.a j.n j.c,Z l.a l.n l.c,Z zs.a zs.n zs.c,Z k.a k.n k.c,u.nm,u.i9,u.pb,u.stop,u.p9,Z b.a b.n b.c,Z f.a f.n f.c,Z e.a e.n e.c,Z d.a d.n d.c]
def ZH{w:World}{y:gR}{o r ys p:iJ}{z:gR}{s v zs t:iJ}{u:gR}{i m l k:iJ}{A B x:Nat}{W:World}(h:ZG w y o r ys p z s v zs t u i m l k A B x W){j:Nat}(C:j<3):
 ∃q d g f e,(∀W,(Instr.index 43 (ZQ y o r ys p z s v zs t u i m l k) (.int .i64 (j:Int))).run prog W=.ok (.agg #[.string q.nm,.int .i64 q.i9,.int .i64 q.pb,.int .i64 q.stop,.int .i64 q.p9,Z d.a d.n d.c,Z g.a g.n g.c,Z f.a f.n f.c,Z e.a e.n e.c]) W)/\iP (fun b=>b<x) W q d g f e:=
 match j,C with
 |0,_=>⟨y,o,r,ys,p,fun _=>by kernel_rfl,h.y⟩
 |1,_=>⟨z,s,v,zs,t,fun _=>by kernel_rfl,h.z⟩
 |2,_=>⟨u,i,m,l,k,fun _=>by kernel_rfl,h.u⟩
def YK{w w':World}{x:gR}{f v s k:iJ}{cs:List Value}(h:kr w' w 37 x f v s k)(e:w'=(w.alloc (.cells #[.string ⟨#[]⟩,oZ,oZ,oZ,oZ,oN,oN,oN,oN] 37)).setCells w 0 cs):Below w w w':=by
 rw[e];exact ig (ag _) _ _ ((TH _ _).alloc (ag _) _)
def Zb(y:gR)(b e ys d f:iJ)(W:World):(Instr.field 40 (.agg #[y.nm,y.i9,y.pb,y.stop,y.p9,Z b.a b.n b.c,Z e.a e.n e.c,Z ys.a ys.n ys.c,Z d.a d.n d.c,Z f.a f.n f.c]) 0).run prog W=.ok (.agg #[y.nm,y.i9,y.pb,y.stop,y.p9,Z b.a b.n b.c,Z e.a e.n e.c,Z ys.a ys.n ys.c,Z d.a d.n d.c]) W:=by
 kernel_rfl
def Zz(x:rz)(c:Int)(s f v k:iJ)(n:Nat->Int)(p:Int)(w:World)(hx:xU (fun b=>b<w.heap.size) w x s f v k)(hc:og c)(hn:∀i,og (n i))(hp:og p)(hw:KW w):
 Calls prog 3 #[Fh x c s f v k,Nw n,.int .u8 p] w (iZ w (.bool true)):=by
 obtain⟨e1,e2⟩:=iN w (.cells (qd x c s f v k).toArray 30) (.cells #[.int .u8 (n 0),.int .u8 (n 1),.int .u8 (n 2),.int .u8 (n 3),.int .u8 (n 4),.int .u8 (n 5),.int .u8 (n 6),.int .u8 (n 7)] 31);have hb:=iH (w:=w) (.cells (qd x c s f v k).toArray 30) (.cells #[.int .u8 (n 0),.int .u8 (n 1),.int .u8 (n 2),.int .u8 (n 3),.int .u8 (n 4),.int .u8 (n 5),.int .u8 (n 6),.int .u8 (n 7)] 31);have Hx:=O hx;have Hw:=O hw;have Hn:=O hn;have Hp:=O hp;have H0:=O (⟨e1,e2,hb⟩:OS w x c s f v k n _);clear hx hw hn hp e1 e2 hb;unfold Fh Nw;go_enter func3,ntmps3;go_upto_region 1 with fail;refine gI (OS w x c s f v k n) H0 ?_;clear H0;rintro w1 h1;have H1:=O h1;clear h1;obtain⟨d0,d1,d2,d3,d4,d5,d6,d7,d8,d9⟩:=H1.d.cells;go_wp2_with fail;refine(zW x c s f v k w1 (Hx.kept (gE H1.b) (fun b h=>eb h H1.b.size)) hc).mono ?_;rintro e wa ⟨y,o,t,ys,r,yp,he,hy,b3,-,e9⟩;unfold If at he;subst he;have H2:=O (H1.go e9);have Hy:=O hy;have f1:=O b3;have f9:=O e9;have m:=O (TL wa (.cells #[.string ⟨#[]⟩,oZ,oZ,oZ,oZ,oN,oN,oN,oN] 37));clear d0 d1 d2 d3 d4 d5 d6 d7 d8 d9 hy b3 e9
 have h4:∀W,(Instr.field 40 (.agg #[y.nm,y.i9,y.pb,y.stop,y.p9,Z o.a o.n o.c,Z t.a t.n t.c,Z ys.a ys.n ys.c,Z r.a r.n r.c,Z yp.a yp.n yp.c]) 0).run prog W=.ok (.agg #[y.nm,y.i9,y.pb,y.stop,y.p9,Z o.a o.n o.c,Z t.a t.n t.c,Z ys.a ys.n ys.c,Z r.a r.n r.c]) W:=fun W=>Zb y o t ys r yp W
 go_wp2_with(refine ja y o t ys r m rfl rfl (.tmp 7) (.tmp 18) rfl rfl rfl ?_)
 intro w3 h3 e3;have R:=O (YK h3 e3);have H3:=O h3;have b5:=O (H2.go R);have g2:=O (Hy.keep (E:=fun b=>w1.heap.size<=b/\b<wa.heap.size) (Bs R) (fun b h=>h));clear h3 e3 m h4 Hy;obtain⟨a0,a1,a2,a3,a4,a5,a6,a7⟩:=b5.a.cells
 go_wp2_with(refine it H3 rfl (.tmp 7) rfl rfl ?_)
 refine(ph y o t ys r n w3 (fun b=>w1.heap.size<=b/\b<wa.heap.size) (fun b h=>eb h.2 R.size) g2 f1 Hn).mono ?_;rintro e wf ⟨z,A,D,zs,C,he,hat,g6,g3,hq⟩;unfold jG at he;subst he;have i0:=H1.b.size;have i2:=f9.size;have i3:=R.size;have i4:=hq.size;have g0:=O (b5.b.trans ((hq.below (B:=w1.heap.size) (fun b h=>h.1) (by omega)).mono i0))
 have f5:=O (hat.kept (T:=fun b=>b<wf.heap.size) (gN.refl _ _) (fun b h=>by
  obtain h|h:=h
  .have:=h.2;omega
  .exact h.2))
 have f8:=O (g3.kept (T:=fun b=>b<wf.heap.size) (gN.refl _ _) (fun b h=>by have:=h.2;omega));have H4:=O ((hq.kept _ ⟨TK H3,fun h=>by have:=h.2;omega⟩).trans H3:kr wf wa 37 y o t ys r);have h2:=O g6;have m:=O (TL wf (.cells #[.string ⟨#[]⟩,oZ,oZ,oZ,oZ,oN,oN,oN,oN] 37));clear a0 a1 a2 a3 a4 a5 a6 a7 hat g3 g6 hq H3 b5 g2 R H2 f9
 go_wp2_with(refine ja z A D zs C m rfl rfl (.tmp 8) (.tmp 21) rfl rfl rfl ?_)
 intro w5 h5 e5;have S:=YK h5 e5;have H5:=O h5;have c9:=O (I g0 S);have b0:=O (f8.go S);have K:=O (f5.go S);have b4:=O (kr.go H4 S);have H:=O (TL w5 (.cells #[.string ⟨#[]⟩,oZ,oZ,oZ,oZ,oN,oN,oN,oN] 37));clear h5 e5 S m f8 f5 H4 g0
 go_wp2_with(first
  |(refine it H5 rfl (.tmp 8) rfl rfl ?_)
  |(refine ja z A D zs C H rfl rfl (.tmp 9) (.tmp 22) rfl rfl rfl ?_))
 intro w6 h6 e6;have a8:=YK h6 e6;have b2:gN (fun b=>b<w5.heap.size) w5 w6:=gE a8;have Q:=O (⟨kr.go b4 a8,kr.go H5 a8,h6,b0.kept b2 (fun _ h=>h),K.kept b2 (fun _ h=>h),K.kept b2 (fun _ h=>h),I c9 a8,TK b4,TK H5,c9.size⟩:ZG w y o t ys r z A D zs C z A D zs C wa wf w5 w6);clear h6 e6 b2 a8 H b4 H5 c9 b0 K;generalize wa.heap.size=g7 at*;generalize wf.heap.size=g8 at*;generalize w5.heap.size=g9 at*;go_upto_region 4 with fail
 go_cut [24] (fun mv wx=>∃M,mv=.int .u8 M/\wx=w6)
 case first=>
  go_wp2;go_meet;exact⟨_,rfl,rfl⟩
 case rest=>
  obtain⟨M,rfl,rfl⟩:=hcut
  apply_assumption
  go_cut [9] (fun pv wx=>∃(u:gR)(uf uv us uk:iJ),pv=.pointer (J g9)/\ZG w y o t ys r z A D zs C u uf uv us uk g7 g8 g9 wx)
  case first=>
   obtain⟨c0,c1,c2,c3,c4,c5,c6,c7,c8⟩:=kr.cells Q.b9
   have b1:∀j,wc.frozen? ⟨g9,j,none⟩=false:=fun j=>by rw[World.frozen?,Q.b9];rfl
   have f0:=b1 0;have f3:=b1 3;have f6:=b1 6;have f7:=b1 7;have hat:=Q.z;have i5:=Zr h2;by_cases m0:M=0
   .subst m0
    go_wp2;go_meet;exact⟨{z with nm:=⟨#[]⟩},A,D,zs,C,rfl,Q.put 0 _ rfl ⟨hat.fs,hat.ws,hat.l,hat.cf,hat.fn,hat.wn,hat.sn,hat.kn,hat.fc,hat.wc,by show(0:Nat)<=_;omega⟩⟩
   .have q0:(M==0)=false:=by simpa using m0
    by_cases m1:M=1
    .subst m1
     go_wp2;go_meet;exact⟨{z with stop:= -1},A,D,zs,C,rfl,Q.put 3 _ rfl ⟨hat.fs,hat.ws,hat.l,hat.cf,hat.fn,hat.wn,hat.sn,hat.kn,hat.fc,hat.wc,hat.nm⟩⟩
    .have q1:(M==1)=false:=by simpa using m1
     by_cases m2:M=2
     .subst m2
      have g5:1<=zs.n:=by have:=hat.l.1;omega
      have i1:1<=zs.c:=by have:=hat.l.2.1;omega
      obtain⟨b,off,ha,-⟩:=hat.l.2.2 g5;go_wp2;go_meet;exact⟨{z with l:=z.l.take 1},A,D,⟨some ⟨b,off,none⟩,1,zs.c⟩,C,rfl,Q.put 7 _ rfl ⟨hat.fs,hat.ws,by have h:=hat.l.take g5;rw[ha]at h;exact h,hat.cf,hat.fn,hat.wn,by show(1:Nat)<=_;omega,hat.kn,hat.fc,hat.wc,hat.nm⟩⟩
     .have q2:(M==2)=false:=by simpa using m2
      go_wp2;go_meet;exact⟨{z with ws:=[]},A,ij,zs,C,rfl,Q.put 6 _ rfl ⟨hat.fs,IRp.nil _ _ _ _ _,hat.l,hat.cf,hat.fn,by decide,hat.sn,hat.kn,hat.fc,fun _=>rfl,hat.nm⟩⟩
  case rest=>
   obtain⟨u,uf,uv,us,uk,rfl,L⟩:=hcut;have HT:=O L;clear L Q
   go_wp2_with(first
    |(refine it HT.b7 rfl (.tmp 7) rfl rfl ?_)
    |(refine it HT.b8 rfl (.tmp 8) rfl rfl ?_)
    |(refine it HT.b9 rfl (.tmp 9) rfl rfl ?_))
   rw[show .agg #[y.nm,y.i9,y.pb,y.stop,y.p9,Z o.a o.n o.c,Z t.a t.n t.c,Z ys.a ys.n ys.c,Z r.a r.n r.c,z.nm,z.i9,z.pb,z.stop,z.p9,Z A.a A.n A.c,Z D.a D.n D.c,Z zs.a zs.n zs.c,Z C.a C.n C.c,u.nm,u.i9,u.pb,u.stop,u.p9,Z uf.a uf.n uf.c,Z uv.a uv.n uv.c,Z us.a us.n us.c,Z uk.a uk.n uk.c]=ZQ y o t ys r z A D zs C u uf uv us uk from rfl]
   go_loopw [42] (fun iv wr=>∃j:Nat,j<=3/\iv=.int .i64 (j:Int)/\ZG w y o t ys r z A D zs C u uf uv us uk g7 g8 g9 wr) (fun iv _=>3-(intOf iv).toNat)
   case atStart=>exact⟨0,aA _,rfl,HT⟩
   case round=>
    obtain⟨j,hj,rfl,L⟩:=hrel;by_cases h9:j<3
    .obtain⟨q,qf,qv,qs,qk,h8,hq⟩:=ZH L h9
     obtain⟨X,E,e4⟩:∃X E,wI q=.tuple #[.string X,.int .i64 E]:=⟨_,_,rfl⟩
     have N:iI q=true->(nO q).length<=1000000:=fun h=>af (Gf h) (by omega)
     have hs:∀W',KW W'->iP (fun b=>b<W'.heap.size) W' q qf qv qs qk->Calls prog 6 #[jG q qf qv qs qk] W' (iZ W' (.tuple #[.string X,.int .i64 E])):=fun W' hk h=>by
      rw[<- e4];exact CB q qf qv qs qk W' h hk.g hk.P hk.T N
     have ht:∀W',iP (fun b=>b<W'.heap.size) W' q qf qv qs qk->Calls prog 7 #[jG q qf qv qs qk] W' (iZ W' (.tuple #[.string X,.int .i64 E])):=fun W' h=>by
      rw[<- e4];exact Zk q qf qv qs qk W' h N
     have f4:=O L;have Hq:=O (hq.kept (T:=fun b=>b<wr.heap.size) (gN.refl _ _) (fun b h=>Nat.lt_trans h (TK L.b9)));have Hs:=O hs;have Ht:=O ht;have m:=O (TL wr (.cells #[.string ⟨#[]⟩,oZ,oZ,oZ,oZ,oN,oN,oN,oN] 37));clear L hq e4 hs ht N
     go_wp2_with(refine ja q qf qv qs qk m rfl rfl (.tmp 11) (.tmp 44) rfl rfl rfl ?_)
     intro w7 h7 e7;have e8:=YK h7 e7;have H7:=O h7;have e0:=O (Hq.go e8);have b6:=O (f4.go e8);clear h7 e7 e8 Hq f4 m h8
     go_wp2_with(refine it H7 rfl (.tmp 11) rfl rfl ?_)
     refine(Hs _ (Hw.go b6.b) e0).mono ?_;rintro e w8 ⟨rfl,F⟩;have H8:=O (kr.go H7 F);have g1:=O (e0.go F);have f2:=O (b6.go F);clear F H7 e0 b6 Hs
     go_wp2_with(refine it H8 rfl (.tmp 11) rfl rfl ?_)
     refine(Ht _ g1).mono ?_;rintro e w9 ⟨rfl,g4⟩;have a9:=O (f2.go g4);clear g4 H8 g1 f2 Ht;go_wp2
     go_roundw
     case rel=>exact⟨j+1,by omega,by go_num,a9⟩
     case measure=>simp[intOf];omega
    .obtain rfl:j=3:=by omega
     have a9:=O L;clear L;go_wp2_with fail;refine(Mc _ (Hw.go a9.b)).mono ?_;rintro e w8 ⟨rfl,F⟩;have h0:=O (I a9.b F);clear F;go_wp2;go_ret;exact⟨rfl,h0⟩
