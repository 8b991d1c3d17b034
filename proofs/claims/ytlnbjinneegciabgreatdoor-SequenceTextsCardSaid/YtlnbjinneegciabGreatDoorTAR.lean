import Derived.Test.YtlnbjinneegciabGreatDoorTAN
namespace Go.Proofs.YtlnbjinneegciabGreatDoor
set_option linter.all false
set_option maxRecDepth 100000
set_option maxHeartbeats 12800000
open Go.Proofs.Tryz Go.RowKit
def Wk(x u:gR)(f v s k f' v' s' k':iJ)(w:World)(hx:iP (fun b=>b<w.heap.size) w x f v s k)(B:iP (fun b=>b<w.heap.size) w u f' v' s' k')(D:Bool)(hT:x=u->D=true)(hF:¬x=u->D=false):
 Calls prog 47 #[jG x f v s k,jG u f' v' s' k'] w (iZ w (.bool D)):=by
 obtain⟨fa,fn,fc⟩:=f;obtain⟨va,r,vc⟩:=v;obtain⟨sa,sn,sc⟩:=s;obtain⟨ka,kn,kc⟩:=k;obtain⟨a0,Q,a1⟩:=f';obtain⟨a7,T,a8⟩:=v';obtain⟨a5,S,a6⟩:=s';obtain⟨C,n,E⟩:=k';have lf:x.fs.length=fn*2:=hx.fs.1;have f9:u.fs.length=Q*2:=B.fs.1;have lv:x.ws.length=r*2:=hx.ws.1;have g9:u.ws.length=T*2:=B.ws.1;have ls:x.l.length=sn:=hx.l.1;have g8:u.l.length=S:=B.l.1;have M:=O (show(x.fs.length=fn*2/\u.fs.length=Q*2)/\(x.ws.length=r*2/\u.ws.length=T*2)/\(x.l.length=sn/\u.l.length=S)from⟨⟨lf,f9⟩,⟨lv,g9⟩,ls,g8⟩);clear lf f9 lv g9 ls g8;have i7:fn<=1000000:=hx.fn;have j3:r<=1000000:=hx.wn;have j2:sn<=1000000:=hx.sn;have e5:kn<=1000000:=hx.kn;have i2:Q<=1000000:=B.fn;have i4:T<=1000000:=B.wn;have i3:S<=1000000:=B.sn;have b8:n<=1000000:=B.kn;have HT:=O hT;have X:=O hF;clear hT hF;obtain⟨e1,e2⟩:=iN w (.cells (iw x ⟨fa,fn,fc⟩ ⟨va,r,vc⟩ ⟨sa,sn,sc⟩ ⟨ka,kn,kc⟩).toArray 37) (.cells (iw u ⟨a0,Q,a1⟩ ⟨a7,T,a8⟩ ⟨a5,S,a6⟩ ⟨C,n,E⟩).toArray 37);have c:=O (iH (w:=w) (.cells (iw x ⟨fa,fn,fc⟩ ⟨va,r,vc⟩ ⟨sa,sn,sc⟩ ⟨ka,kn,kc⟩).toArray 37) (.cells (iw u ⟨a0,Q,a1⟩ ⟨a7,T,a8⟩ ⟨a5,S,a6⟩ ⟨C,n,E⟩).toArray 37));have Hx:=O hx;have Hy:=O B;have E1:=O e1;have E2:=O e2;clear hx B e1 e2;unfold jG;go_enter func47,ntmps47;go_upto_region 1 with fail;refine gI (fun wx=>kr wx w 37 x ⟨fa,fn,fc⟩ ⟨va,r,vc⟩ ⟨sa,sn,sc⟩ ⟨ka,kn,kc⟩/\kr wx (w+1) 37 u ⟨a0,Q,a1⟩ ⟨a7,T,a8⟩ ⟨a5,S,a6⟩ ⟨C,n,E⟩/\Below w w wx) ⟨E1,E2,c⟩ ?_;clear E1 E2 c;rintro w1 ⟨h1,h2,hb⟩;have N:=h1.lt;have P:=h2.lt;obtain⟨c0,c1,c2,c3,c4,c5,c6,c7,c8⟩:=h1.cells;obtain⟨d0,d1,d2,d3,d4,d5,d6,d7,d8⟩:=h2.cells;have z:=O h1;have A:=O h2;have c:=O hb;clear h1 h2 hb;by_cases d:x.nm=u.nm
 case neg=>
  have a:=O (X (fun h=>d (by rw[h])))
  have i6:¬x.nm.toList=u.nm.toList:=fun h=>d (WI h)
  go_wp2;go_ret;exact⟨by rw[a];rfl,c⟩
 have f0:=d;clear d;by_cases d:x.i9=u.i9
 case neg=>
  have a:=O (X (fun h=>d (by rw[h])));go_wp2;go_ret;exact⟨by rw[a];rfl,c⟩
 have f1:=d;clear d;by_cases d:x.pb=u.pb
 case neg=>
  have a:=O (X (fun h=>d (by rw[h])));go_wp2;go_ret;exact⟨by rw[a];rfl,c⟩
 have f2:=d;clear d;by_cases d:x.stop=u.stop
 case neg=>
  have a:=O (X (fun h=>d (by rw[h])));go_wp2;go_ret;exact⟨by rw[a];rfl,c⟩
 have f3:=d;clear d;by_cases d:x.p9=u.p9
 case neg=>
  have a:=O (X (fun h=>d (by rw[h])));go_wp2;go_ret;exact⟨by rw[a];rfl,c⟩
 have f4:=d;clear d;by_cases d:x.cf=u.cf
 case neg=>
  have a:=O (X (fun h=>d (by rw[h])))
  have g:∀W,Below w w W->Calls prog 83 #[Z ka kn kc,Z C n E] W (iZ W (.bool false)):=fun W hW=>by
   have:=WE x.cf u.cf ka C kn kc n E W ((Hx.go hW).cf) ((Hy.go hW).cf) e5 b8;rw[aw d]at this;exact this
  have H:=O g;clear g
  go_wp2_with((with_reducible refine(H.out _ c.out).mono ?_);rintro e w2 ⟨rfl,b4⟩;have a9:=O b4;clear b4)
  go_ret;exact⟨by rw[a];rfl,I c a9⟩
 have g:∀W,Below w w W->Calls prog 83 #[Z ka kn kc,Z C n E] W (iZ W (.bool true)):=fun W hW=>by
  have:=WE x.cf u.cf ka C kn kc n E W ((Hx.go hW).cf) ((Hy.go hW).cf) e5 b8;rw[aP d]at this;exact this
 have H:=O g;have F5:=O d;clear g d
 go_upto_region 3 with((with_reducible refine(H.out _ c.out).mono ?_);rintro e w2 ⟨rfl,b4⟩;have a9:=O b4;clear b4)
 have F:=O (show x.nm=u.nm/\x.i9=u.i9/\x.pb=u.pb/\x.stop=u.stop/\x.p9=u.p9/\x.cf=u.cf from⟨f0,f1,f2,f3,f4,F5⟩);refine gI (fun wx=>kr wx w 37 x ⟨fa,fn,fc⟩ ⟨va,r,vc⟩ ⟨sa,sn,sc⟩ ⟨ka,kn,kc⟩/\kr wx (w+1) 37 u ⟨a0,Q,a1⟩ ⟨a7,T,a8⟩ ⟨a5,S,a6⟩ ⟨C,n,E⟩/\Below w w wx) ⟨z.go a9,A.go a9,I c a9⟩ ?_;clear f0 f1 f2 f3 f4 F5 H z A c a9 N P c0 c1 c2 c3 c4 c5 c6 c7 c8 d0 d1 d2 d3 d4 d5 d6 d7 d8;rintro w3 ⟨h1,h2,hb⟩;have N:=h1.lt;have P:=h2.lt;obtain⟨-,-,-,-,-,c5,c6,c7,-⟩:=h1.cells;obtain⟨-,-,-,-,-,d5,d6,d7,-⟩:=h2.cells;have z:=O h1;have A:=O h2;have c:=O hb;clear h1 h2 hb;by_cases ef:fn=Q
 case neg=>
  have a:=O (X (fun h=>ef (by have h1:=M.1.1;have h2:=M.1.2;rw[h]at h1;omega)));go_wp2;go_ret;exact⟨by rw[a];rfl,c⟩
 subst ef;by_cases ev:r=T
 case neg=>
  have a:=O (X (fun h=>ev (by have h1:=M.2.1.1;have h2:=M.2.1.2;rw[h]at h1;omega)));go_wp2;go_ret;exact⟨by rw[a];rfl,c⟩
 subst ev;by_cases es:sn=S
 case neg=>
  have a:=O (X (fun h=>es (by have h1:=M.2.2.1;have h2:=M.2.2.2;rw[h]at h1;omega)));go_wp2;go_ret;exact⟨by rw[a];rfl,c⟩
 subst es;go_wp2
 go_loopw [5] (fun iv wr=>∃i:Nat,i<=fn/\iv=.int .i64 (i:Int)/\(∀t,t<i*2->x.fs.getD t 0=u.fs.getD t 0)/\kr wr w 37 x ⟨fa,fn,fc⟩ ⟨va,r,vc⟩ ⟨sa,sn,sc⟩ ⟨ka,kn,kc⟩/\kr wr (w+1) 37 u ⟨a0,fn,a1⟩ ⟨a7,r,a8⟩ ⟨a5,sn,a6⟩ ⟨C,n,E⟩/\Below w w wr) (fun iv _=>fn-(intOf iv).toNat)
 case atStart=>exact⟨0,aA _,rfl,fun t ht=>by omega,z,A,c⟩
 case round=>
  clear z A c N P c5 c6 c7 d5 d6 d7;obtain⟨i,i8,rfl,e7,h1,h2,hb⟩:=hrel;have Pf:=O e7;clear e7;have N:=h1.lt;have P:=h2.lt;obtain⟨-,-,-,-,-,c5,c6,c7,-⟩:=h1.cells;obtain⟨-,-,-,-,-,d5,d6,d7,-⟩:=h2.cells;have z:=O h1;have A:=O h2;have c:=O hb;clear h1 h2 hb;by_cases b6:i<fn
  .obtain⟨b1,o1,q,l1,x0,x1⟩:=((Hx.go c).fs.ir (fun _ h=>h)).at2 b6
   obtain⟨b2,o2,g2,l2,y0,y1⟩:=((Hy.go c).fs.ir (fun _ h=>h)).at2 b6;simp only at q g2;subst q g2;generalize hp0:x.fs.getD (i*2) 0=p0 at*;generalize hp1:x.fs.getD (i*2+1) 0=p1 at*;generalize hq0:u.fs.getD (i*2) 0=q0 at*;generalize hq1:u.fs.getD (i*2+1) 0=q1 at*;have b3:=O (show(x.fs.getD (i*2) 0=p0/\x.fs.getD (i*2+1) 0=p1)/\(u.fs.getD (i*2) 0=q0/\u.fs.getD (i*2+1) 0=q1)from⟨⟨hp0,hp1⟩,hq0,hq1⟩);clear hp0 hp1 hq0 hq1;by_cases he:p0=q0/\p1=q1
   .obtain⟨rfl,rfl⟩:=he
    go_wp2_with fail
    go_quiet (fail)
    go_wp2
    go_roundw
    case rel=>
     refine⟨i+1,by omega,by go_num,fun t ht=>?_,z.go (gV (TH _ _) _),A.go (gV (TH _ _) _),gV c _⟩;obtain⟨⟨g0,q⟩,g3,g4⟩:=b3;by_cases e0:t<i*2
     .exact Pf t e0
     .obtain rfl|rfl:t=i*2\/t=i*2+1:=by omega
      .rw[g0,g3]
      .rw[q,g4]
    case measure=>simp[intOf];omega
   .have a:=O (X (fun h=>he (by obtain⟨⟨g0,q⟩,g3,g4⟩:=b3;rw[h]at g0 q;exact⟨g0.symm.trans g3,q.symm.trans g4⟩)))
    by_cases h0:p0=q0
    .have h1:¬p1=q1:=fun h=>he ⟨h0,h⟩
     subst h0;clear he;go_wp2_with fail
     go_quiet (fail)
     go_wp2;go_ret;exact⟨by rw[a];rfl,gV c _⟩
    .clear he
     go_wp2_with fail
     go_quiet (fail)
     go_wp2;go_ret;exact⟨by rw[a];rfl,gV c _⟩
  .obtain rfl:fn=i:=by omega
   have Ef:=O (Ww (M.1.1.trans M.1.2.symm) (fun t ht=>Pf t (by rw[<- M.1.1];exact ht)));clear Pf;go_wp2
   go_loopw [6] (fun iv wr=>∃i:Nat,i<=r/\iv=.int .i64 (i:Int)/\(∀t,t<i*2->x.ws.getD t 0=u.ws.getD t 0)/\kr wr w 37 x ⟨fa,fn,fc⟩ ⟨va,r,vc⟩ ⟨sa,sn,sc⟩ ⟨ka,kn,kc⟩/\kr wr (w+1) 37 u ⟨a0,fn,a1⟩ ⟨a7,r,a8⟩ ⟨a5,sn,a6⟩ ⟨C,n,E⟩/\Below w w wr) (fun iv _=>r-(intOf iv).toNat)
   case atStart=>exact⟨0,aA _,rfl,fun t ht=>by omega,z,A,c⟩
   case round=>
    clear z A c N P c5 c6 c7 d5 d6 d7;obtain⟨j,j0,rfl,e8,h1,h2,hb⟩:=hrel;have Pv:=O e8;clear e8;have N:=h1.lt;have P:=h2.lt;obtain⟨-,-,-,-,-,-,c6,c7,-⟩:=h1.cells;obtain⟨-,-,-,-,-,-,d6,d7,-⟩:=h2.cells;have z:=O h1;have A:=O h2;have c:=O hb;clear h1 h2 hb;by_cases b7:j<r
    .obtain⟨b1,o1,q,l1,x0,x1⟩:=((Hx.go c).ws.ir (fun _ h=>h)).at2 b7
     obtain⟨b2,o2,g2,l2,y0,y1⟩:=((Hy.go c).ws.ir (fun _ h=>h)).at2 b7;simp only at q g2;subst q g2;generalize hp0:x.ws.getD (j*2) 0=p0 at*;generalize hp1:x.ws.getD (j*2+1) 0=p1 at*;generalize hq0:u.ws.getD (j*2) 0=q0 at*;generalize hq1:u.ws.getD (j*2+1) 0=q1 at*;have b3:=O (show(x.ws.getD (j*2) 0=p0/\x.ws.getD (j*2+1) 0=p1)/\(u.ws.getD (j*2) 0=q0/\u.ws.getD (j*2+1) 0=q1)from⟨⟨hp0,hp1⟩,hq0,hq1⟩);clear hp0 hp1 hq0 hq1;by_cases he:p0=q0/\p1=q1
     .obtain⟨rfl,rfl⟩:=he
      go_wp2_with fail
      go_quiet (fail)
      go_wp2
      go_roundw
      case rel=>
       refine⟨j+1,by omega,by go_num,fun t ht=>?_,z.go (gV (TH _ _) _),A.go (gV (TH _ _) _),gV c _⟩;obtain⟨⟨g0,q⟩,g3,g4⟩:=b3;by_cases e0:t<j*2
       .exact Pv t e0
       .obtain rfl|rfl:t=j*2\/t=j*2+1:=by omega
        .rw[g0,g3]
        .rw[q,g4]
      case measure=>simp[intOf];omega
     .have a:=O (X (fun h=>he (by obtain⟨⟨g0,q⟩,g3,g4⟩:=b3;rw[h]at g0 q;exact⟨g0.symm.trans g3,q.symm.trans g4⟩)))
      by_cases h0:p0=q0
      .have h1:¬p1=q1:=fun h=>he ⟨h0,h⟩
       subst h0;clear he;go_wp2_with fail
       go_quiet (fail)
       go_wp2;go_ret;exact⟨by rw[a];rfl,gV c _⟩
      .clear he
       go_wp2_with fail
       go_quiet (fail)
       go_wp2;go_ret;exact⟨by rw[a];rfl,gV c _⟩
    .obtain rfl:r=j:=by omega
     have Ev:=O (Ww (M.2.1.1.trans M.2.1.2.symm) (fun t ht=>Pv t (by rw[<- M.2.1.1];exact ht)));clear Pv;go_wp2
     go_loopw [7] (fun iv wr=>∃i:Nat,i<=sn/\iv=.int .i64 (i:Int)/\(∀t,t<i->x.l[t]? =u.l[t]?)/\kr wr w 37 x ⟨fa,fn,fc⟩ ⟨va,r,vc⟩ ⟨sa,sn,sc⟩ ⟨ka,kn,kc⟩/\kr wr (w+1) 37 u ⟨a0,fn,a1⟩ ⟨a7,r,a8⟩ ⟨a5,sn,a6⟩ ⟨C,n,E⟩/\Below w w wr) (fun iv _=>sn-(intOf iv).toNat)
     case atStart=>exact⟨0,aA _,rfl,fun t ht=>by omega,z,A,c⟩
     case round=>
      clear z A c N P c6 c7 d6 d7;obtain⟨m,j1,rfl,e9,h1,h2,hb⟩:=hrel;have Ps:=O e9;clear e9;have N:=h1.lt;have P:=h2.lt;obtain⟨-,-,-,-,-,-,-,c7,-⟩:=h1.cells;obtain⟨-,-,-,-,-,-,-,d7,-⟩:=h2.cells;have z:=O h1;have A:=O h2;have c:=O hb;clear h1 h2 hb;by_cases e6:m<sn
      .obtain⟨b1,o1,y,cs,e1,l1,b9,⟨a2,n2,c2,rfl,f7,h9,-,-⟩,f5⟩:=(Hx.go c).l.at e6
       obtain⟨b2,o2,y',i5,e2,l2,e4,⟨a3,n3,c3,rfl,f8,i0,-,-⟩,f6⟩:=(Hy.go c).l.at e6;simp only at e1 e2;subst e1 e2;have h5:=O (show¬y=y'->D=false from fun h=>X (fun e=>h (by rw[e,e4]at b9;exact(aE b9).symm)));have h3:=O (show y=y'->x.l[m]? =u.l[m]? from fun h=>by rw[b9,e4,h]);have c9:=O f5;have d9:=O f6;have h7:=O (f7.ir (fun _ h=>h));have h8:=O (f8.ir (fun _ h=>h));clear f5 f6 f7 f8 b9 e4;go_upto_region 18 with fail;refine ic 12 [11] [] [(0,true),(1,true),(2,true),(3,true),(4,true),(5,true),(6,true),(7,true),(8,true),(9,true),(10,false),(11,true)] (by kernel_rfl) (by kernel_rfl) ⟨by simp,by simp,fun _ h=>by cases h⟩ (fun _ _ _ _ _ h=>h) (fun _ _ o _ _ h=>by cases o<;>exact h) ?_
       iterate 4
        refine gZ (v:=?_) ?_ ?_;rotate_left
        .intro y B
         have z0:=(B.cell (p:=⟨w.heap.size,7,none⟩) N).trans c7;go_simp;with_reducible rfl
        try simp only[V]
       refine pE rfl rfl (by rfl) (fun y B=>jb c9 (gE (gJ (k:=1) B)) l1) _ rfl rfl ?_;try simp only[V]
       iterate 4
        refine gZ (v:=?_) ?_ ?_;rotate_left
        .intro y B
         have z0:=(B.cell (p:=⟨w.heap.size+1,7,none⟩) P).trans d7;go_simp;with_reducible rfl
        try simp only[V]
       refine pE rfl rfl (by rfl) (fun y B=>jb d9 (gE (gJ (k:=1) B)) l2) _ rfl rfl ?_;(try simp only[V]);refine iK (fun xa e3 K hK=>?_);go_simp;have L:Below wr wr xa:=gJ (k:=1) e3;have b0:=Xf y.s y'.s y.zs y'.zs a2 a3 n2 c2 n3 c3 xa (h7.go L) (h8.go L) h9 i0;by_cases R:y.s=y'.s/\y.zs=y'.zs
       .rw[aP R]at b0
        have h6:=O (h3 (by cases y;cases y';simp only at R;rw[R.1,R.2]));refine b0.mono ?_;rintro e wb ⟨rfl,a4⟩;refine hK _ _ a4 ?_;clear hK K b0 R
        iterate 1
         refine iy (v:=?_) ?_ ?_;rotate_left
         .intro y
          go_simp;with_reducible rfl
         try simp only[V]
        refine jV (l:=[]) rfl (fun w4 b5=>?_);(try simp only[V]);have h4:Below wr wr w4:=I L (I a4 b5);have L1:=O (z.go h4);have L2:=O (A.go h4);have Lb:=O (I c h4);clear e3 L a4 b5 h4 z A c c9 d9 c7 d7;go_wp2
        go_roundw
        case rel=>
         refine⟨m+1,by omega,by go_num,fun t ht=>?_,L1,L2,Lb⟩;by_cases i1:t<m
         .exact Ps t i1
         .obtain rfl:t=m:=by omega
          exact h6
        case measure=>simp[intOf];omega
       .rw[aw R]at b0
        have a:=O (h5 (fun h=>R ⟨by rw[h],by rw[h]⟩));refine b0.mono ?_;rintro e wb ⟨rfl,a4⟩;refine hK _ _ a4 ?_;clear hK K b0 R
        iterate 1
         refine iy (v:=?_) ?_ ?_;rotate_left
         .intro y
          go_simp;with_reducible rfl
         try simp only[V]
        refine jV (l:=[]) rfl (fun w4 b5=>?_);(try simp only[V]);have Lb:=O (I c (I L (I a4 b5)));clear e3 L a4 b5 z A c c9 d9 c7 d7;go_wp2;go_ret;exact⟨by rw[a];rfl,Lb⟩
      .obtain rfl:sn=m:=by omega
       have Es:=WU M.2.2.1 M.2.2.2 Ps
       have a:=O (HT (by
        obtain⟨g0,q,g2,g3,g4,g5⟩:=F;have g6:=Ef.out;have g7:=Ev.out;cases x;cases u;simp only at g0 q g2 g3 g4 g5 g6 g7 Es;subst g0 q g2 g3 g4 g5 g6 g7 Es
        rfl))
       clear Es;go_wp2;go_ret;exact⟨by rw[a];rfl,c⟩
def xw(x:gR)(f v s k a c s' k':iJ)(w:World)(d:iP (fun b=>b<w.heap.size) w x f v s k)(e:iP (fun b=>b<w.heap.size) w x a c s' k'):
 Calls prog 47 #[jG x f v s k,jG x a c s' k'] w (iZ w (.bool true)):=
 Wk x x f v s k a c s' k' w d e true (fun _=>rfl) (fun h=>absurd rfl h)
