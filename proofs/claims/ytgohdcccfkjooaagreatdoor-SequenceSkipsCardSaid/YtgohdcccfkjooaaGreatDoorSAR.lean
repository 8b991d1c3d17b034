import Derived.Test.YtgohdcccfkjooaaGreatDoorSAM
namespace Go.Proofs.YtgohdcccfkjooaaGreatDoor
set_option linter.all false
set_option maxRecDepth 100000
set_option maxHeartbeats 6400000
open Go.Proofs.Tryz Go.RowKit
def xw(x f v s k f' v' s' k' w)(R:iP (fun b=>b<w.heap.size) w x f v s k)(t:iP (fun b=>b<w.heap.size) w x f' v' s' k'):
 Calls prog 19 #[jG x f v s k,jG x f' v' s' k'] w (iZ w (.bool true)):=by
 obtain⟨fa,fn,fc⟩:=f;obtain⟨va,c,vc⟩:=v;obtain⟨sa,sn,sc⟩:=s;obtain⟨S,kn,T⟩:=k;obtain⟨D,e0,E⟩:=f';obtain⟨M,e7,N⟩:=v';obtain⟨H,e6,L⟩:=s';obtain⟨u,e5,z⟩:=k'
 have ef:fn=e0:=by have h1:=R.fs.1;have h2:=t.fs.1;simp only at h1 h2;omega
 have ev:c=e7:=by have h1:=R.ws.1;have h2:=t.ws.1;simp only at h1 h2;omega
 have es:sn=e6:=by have h1:=R.l.1;have h2:=t.l.1;simp only at h1 h2;omega
 have ek:kn=e5:=by have h1:=R.cf.1;have h2:=t.cf.1;simp only at h1 h2;omega
 subst ef ev es ek;have e9:fn<=1000000:=R.fn;have f2:c<=1000000:=R.wn;have f1:sn<=1000000:=R.sn;have e3:kn<=1000000:=R.kn;obtain⟨B,C⟩:=iN w (.cells (iw x ⟨fa,fn,fc⟩ ⟨va,c,vc⟩ ⟨sa,sn,sc⟩ ⟨S,kn,T⟩).toArray 37) (.cells (iw x ⟨D,fn,E⟩ ⟨M,c,N⟩ ⟨H,sn,L⟩ ⟨u,kn,z⟩).toArray 37);have d:=iH (w:=w) (.cells (iw x ⟨fa,fn,fc⟩ ⟨va,c,vc⟩ ⟨sa,sn,sc⟩ ⟨S,kn,T⟩).toArray 37) (.cells (iw x ⟨D,fn,E⟩ ⟨M,c,N⟩ ⟨H,sn,L⟩ ⟨u,kn,z⟩).toArray 37);have Hx:=O R;have Hy:=O t;have E1:=O B;have E2:=O C;have a:=O d;clear R t B C d;unfold jG;go_enter func19,ntmps19;go_upto_region 1 with fail;refine gI (fun wx=>hU wx w 37 x ⟨fa,fn,fc⟩ ⟨va,c,vc⟩ ⟨sa,sn,sc⟩ ⟨S,kn,T⟩/\hU wx (w+1) 37 x ⟨D,fn,E⟩ ⟨M,c,N⟩ ⟨H,sn,L⟩ ⟨u,kn,z⟩/\Below w w wx) ⟨E1,E2,a⟩ ?_;clear E1 E2 a;rintro w1 ⟨h1,h2,d⟩;have q:=h1.lt;have r:=h2.lt;obtain⟨c0,c1,c2,c3,c4,c5,W,P,c8⟩:=h1.cells;obtain⟨d0,d1,d2,d3,d4,d5,X,Q,d8⟩:=h2.cells;have g:=O h1;have n:=O h2;have a:=O d;clear h1 h2 d
 go_upto_region 3 with((with_reducible refine(DS x.cf S u kn T z _ ((Hx.out.go a.out).cf) ((Hy.out.go a.out).cf) e3).mono ?_);rintro e w2 ⟨rfl,a8⟩;have a0:=O a8;clear a8)
 refine gI (fun wx=>hU wx w 37 x ⟨fa,fn,fc⟩ ⟨va,c,vc⟩ ⟨sa,sn,sc⟩ ⟨S,kn,T⟩/\hU wx (w+1) 37 x ⟨D,fn,E⟩ ⟨M,c,N⟩ ⟨H,sn,L⟩ ⟨u,kn,z⟩/\Below w w wx) ⟨g.go a0,n.go a0,I a a0⟩ ?_;clear g n a a0 q r c0 c1 c2 c3 c4 c5 W P c8 d0 d1 d2 d3 d4 d5 X Q d8;rintro w3 ⟨h1,h2,d⟩;have q:=h1.lt;have r:=h2.lt;obtain⟨-,-,-,-,-,c5,W,P,-⟩:=h1.cells;obtain⟨-,-,-,-,-,d5,X,Q,-⟩:=h2.cells;have g:=O h1;have n:=O h2;have a:=O d;clear h1 h2 d;go_wp2_with fail
 go_loopw [5] (fun F wr=>∃i:Nat,i<=fn/\F=.int .i64 (i:Int)/\hU wr w 37 x ⟨fa,fn,fc⟩ ⟨va,c,vc⟩ ⟨sa,sn,sc⟩ ⟨S,kn,T⟩/\hU wr (w+1) 37 x ⟨D,fn,E⟩ ⟨M,c,N⟩ ⟨H,sn,L⟩ ⟨u,kn,z⟩/\Below w w wr) (fun F _=>fn-(intOf F).toNat)
 case atStart=>exact⟨0,aA _,rfl,g,n,a⟩
 case round=>
  clear g n a q r c5 W P d5 X Q;obtain⟨i,hi,rfl,h1,h2,d⟩:=hrel;have q:=h1.lt;have r:=h2.lt;obtain⟨-,-,-,-,-,c5,W,P,-⟩:=h1.cells;obtain⟨-,-,-,-,-,d5,X,Q,-⟩:=h2.cells;have g:=O h1;have n:=O h2;have a:=O d;clear h1 h2 d;by_cases b0:i<fn
  .obtain⟨b1,o1,B,l1,x0,x1⟩:=((Hx.go a).fs.ir (fun _ h=>h)).at2 b0
   obtain⟨b2,o2,C,l2,y0,y1⟩:=((Hy.go a).fs.ir (fun _ h=>h)).at2 b0;simp only at B C;subst B C;generalize x.fs.getD (i*2) 0=p0 at*;generalize x.fs.getD (i*2+1) 0=p1 at*;go_wp2_with fail
   go_quiet (fail)
   go_wp2_with fail
   go_roundw
   case rel=>exact⟨i+1,by omega,by go_num,g.go (gV (TH _ _) _),n.go (gV (TH _ _) _),gV a _⟩
   case measure=>simp[intOf];omega
  .obtain rfl:fn=i:=by omega
   go_wp2_with fail
   go_loopw [6] (fun F wr=>∃i:Nat,i<=c/\F=.int .i64 (i:Int)/\hU wr w 37 x ⟨fa,fn,fc⟩ ⟨va,c,vc⟩ ⟨sa,sn,sc⟩ ⟨S,kn,T⟩/\hU wr (w+1) 37 x ⟨D,fn,E⟩ ⟨M,c,N⟩ ⟨H,sn,L⟩ ⟨u,kn,z⟩/\Below w w wr) (fun F _=>c-(intOf F).toNat)
   case atStart=>exact⟨0,aA _,rfl,g,n,a⟩
   case round=>
    clear g n a q r c5 W P d5 X Q;obtain⟨j,hj,rfl,h1,h2,d⟩:=hrel;have q:=h1.lt;have r:=h2.lt;obtain⟨-,-,-,-,-,-,W,P,-⟩:=h1.cells;obtain⟨-,-,-,-,-,-,X,Q,-⟩:=h2.cells;have g:=O h1;have n:=O h2;have a:=O d;clear h1 h2 d;by_cases b3:j<c
    .obtain⟨b1,o1,B,l1,x0,x1⟩:=((Hx.go a).ws.ir (fun _ h=>h)).at2 b3
     obtain⟨b2,o2,C,l2,y0,y1⟩:=((Hy.go a).ws.ir (fun _ h=>h)).at2 b3;simp only at B C;subst B C;generalize x.ws.getD (j*2) 0=p0 at*;generalize x.ws.getD (j*2+1) 0=p1 at*;go_wp2_with fail
     go_quiet (fail)
     go_wp2_with fail
     go_roundw
     case rel=>exact⟨j+1,by omega,by go_num,g.go (gV (TH _ _) _),n.go (gV (TH _ _) _),gV a _⟩
     case measure=>simp[intOf];omega
    .obtain rfl:c=j:=by omega
     go_wp2_with fail
     go_loopw [7] (fun F wr=>∃i:Nat,i<=sn/\F=.int .i64 (i:Int)/\hU wr w 37 x ⟨fa,fn,fc⟩ ⟨va,c,vc⟩ ⟨sa,sn,sc⟩ ⟨S,kn,T⟩/\hU wr (w+1) 37 x ⟨D,fn,E⟩ ⟨M,c,N⟩ ⟨H,sn,L⟩ ⟨u,kn,z⟩/\Below w w wr) (fun F _=>sn-(intOf F).toNat)
     case atStart=>exact⟨0,aA _,rfl,g,n,a⟩
     case round=>
      clear g n a q r W P X Q;obtain⟨m,hm,rfl,h1,h2,d⟩:=hrel;have q:=h1.lt;have r:=h2.lt;obtain⟨-,-,-,-,-,-,-,P,-⟩:=h1.cells;obtain⟨-,-,-,-,-,-,-,Q,-⟩:=h2.cells;have g:=O h1;have n:=O h2;have a:=O d;clear h1 h2 d;by_cases b4:m<sn
      .obtain⟨b1,o1,y,cs,B,l1,b8,⟨a2,n2,c2,rfl,a4,e4,-,-⟩,b5⟩:=(Hx.go a).l.at b4
       obtain⟨b2,o2,y',e8,C,l2,b9,⟨a3,n3,c3,rfl,a5,f0,-,-⟩,b6⟩:=(Hy.go a).l.at b4;simp only at B C;subst B C;rw[b8]at b9;cases b9
       obtain rfl:n2=n3:=by rw[mU a4,mU a5]
       have a6:=O b5;have a7:=O b6;have c9:=O (a4.ir (fun _ h=>h));have d9:=O (a5.ir (fun _ h=>h));clear b5 b6 a4 a5 b8;go_upto_region 18 with fail;refine ic 12 [11] [] [(0,true),(1,true),(2,true),(3,true),(4,true),(5,true),(6,true),(7,true),(8,true),(9,true),(10,false),(11,true)] (by kernel_rfl) (by kernel_rfl) ⟨by simp,by simp,fun _ h=>by cases h⟩ (fun _ _ _ _ _ h=>h) (fun _ _ o _ _ h=>by cases o<;>exact h) ?_
       iterate 4
        refine gZ (v:=?_) ?_ ?_;rotate_left
        .intro y t
         have z0:=(t.cell (p:=⟨w.heap.size,7,none⟩) q).trans P;go_simp;rfl
        try simp only[V]
       refine pE rfl rfl (by rfl) (fun y t=>jb a6 (gE (gJ (k:=1) t)) l1) _ rfl rfl ?_;try simp only[V]
       iterate 4
        refine gZ (v:=?_) ?_ ?_;rotate_left
        .intro y t
         have z0:=(t.cell (p:=⟨w.heap.size+1,7,none⟩) r).trans Q;go_simp;rfl
        try simp only[V]
       refine pE rfl rfl (by rfl) (fun y t=>jb a7 (gE (gJ (k:=1) t)) l2) _ rfl rfl ?_;(try simp only[V]);refine iK (fun xa b7 K hK=>?_);go_simp;have A:Below wr wr xa:=gJ (k:=1) b7;refine(IP y.s y.zs a2 a3 n2 c2 c3 xa (c9.go A) (d9.go A) e4).mono ?_;rintro e wb ⟨rfl,a1⟩;refine hK _ _ a1 ?_;clear hK K
       iterate 1
        refine iy (v:=?_) ?_ ?_;rotate_left
        .intro y
         go_simp;rfl
        try simp only[V]
       refine jV (l:=[]) rfl (fun w4 a9=>?_);(try simp only[V]);have h4:Below wr wr w4:=I A (I a1 a9);have L1:=O (g.go h4);have L2:=O (n.go h4);have Lb:=O (I a h4);clear b7 A a1 a9 h4 g n a a6 a7 P Q;go_wp2_with fail
       go_roundw
       case rel=>exact⟨m+1,by omega,by go_num,L1,L2,Lb⟩
       case measure=>simp[intOf];omega
      .obtain rfl:sn=m:=by omega
       go_wp2;go_ret;exact⟨rfl,a⟩
