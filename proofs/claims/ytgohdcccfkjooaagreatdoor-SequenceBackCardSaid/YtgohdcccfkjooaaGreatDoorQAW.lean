import Derived.Test.YtgohdcccfkjooaaGreatDoorQAV
namespace Go.Proofs.YtgohdcccfkjooaaGreatDoor
set_option linter.all false
set_option maxRecDepth 100000
set_option maxHeartbeats 3200000
open Go.Proofs.Tryz Go.RowKit
def DS(l a b n c d w)(h1:RR oB 2 (fun b=>b<w.heap.size) w a n c l)(h2:RR oB 2 (fun b=>b<w.heap.size) w b n d l)(hn:n<=1000000):
 Calls prog 55 #[Z a n c,Z b n d] w (iZ w (.bool true)):=by
 have E:=O h1;have F:=O h2;clear h1 h2
 go_enter func55,ntmps55
 go_wp2_with fail
 go_loopw [5] (fun f wr=>∃k:Nat,k<=n/\f=.int .i64 (k:Int)/\Below w w wr) (fun f _=>n-(intOf f).toNat)
 case atStart=>exact⟨0,aA _,rfl,TH _ _⟩
 case round=>
  obtain⟨k,hk,rfl,B⟩:=hrel;have q:=O B;clear B
  by_cases t:k<n
  .obtain⟨b1,N,y,cs,rfl,l1,C,⟨a2,o,c2,rfl,i,T,-,S⟩,v⟩:=(E.go ky q).at t
   obtain⟨b2,P,y',R,rfl,L,u,⟨a3,M,c3,rfl,m,W,-,-⟩,g⟩:=(F.go ky q).at t;rw[C]at u;cases u
   obtain rfl:o=M:=by rw[mU i,mU m]
   have D:=v 0 _ rfl;have x1:=v 1 _ rfl;have z0:=g 0 _ rfl;have x:=g 1 _ rfl;rw[bE]at D z0;have z:=O (i.ir (fun _ h=>h));have A:=O (m.ir (fun _ h=>h));have H:=O x1;have K:=O x;clear v g i m C
   go_wp2_with fail
   go_quiet (fail)
   go_wp2_with fail
   go_loopw [6] (fun f Q=>∃j:Nat,j<=o/\f=.int .i64 (j:Int)/\Below wr wr Q) (fun f _=>o-(intOf f).toNat)
   case atStart=>exact⟨0,aA _,rfl,gV (TH _ _) _⟩
   case round=>
    obtain⟨j,X,rfl,r⟩:=hrel;have e:=O r;clear r D x1 z0 x;have x1:=(e.cell (p:=⟨b1,N+k*2+1,none⟩) l1).trans H;have x:=(e.cell (p:=⟨b2,P+k*2+1,none⟩) L).trans K
    by_cases s:j<o
    .obtain⟨b3,o3,rfl,l3,p0,p1,p2⟩:=(z.go e).at3 s
     obtain⟨b4,o4,rfl,l4,q0,q1,q2⟩:=(A.go e).at3 s;generalize y.zs.getD (j*3) 0=v0 at*;generalize y.zs.getD (j*3+1) 0=v1 at*;generalize y.zs.getD (j*3+2) 0=v2 at*
     go_wp2_with fail
     go_quiet (fail)
     go_wp2_with fail
     go_roundw
     case rel=>exact⟨j+1,by omega,by go_num,gV e _⟩
     case measure=>simp[intOf];omega
    .obtain rfl:j=o:=by omega
     go_wp2
     go_roundw
     case rel=>exact⟨k+1,by omega,by go_num,I q e⟩
     case measure=>simp[intOf];omega
  .obtain rfl:k=n:=by omega
   go_wp2;go_ret;exact⟨rfl,q⟩
def vu(x f v s k)(w:World)(hf:IR w w 2 v.a v.n v.c x.ws)(hn:v.n<=1000000):
 Calls prog 110 #[ry x f v s k] w (iZ w (.bool (kz x.prim x.ws v.n))):=by
 have Hf:=O hf;clear hf;obtain⟨va,n,vc⟩:=v;simp only at*
 show Calls _ _ _ w (iZ w (.bool (kz x.prim x.ws n)))
 have c2:hU (w.alloc (.cells (iw x f ⟨va,n,vc⟩ s k).toArray 37)) w 37 x f ⟨va,n,vc⟩ s k:=TL w _;have c1:=(TH w w).alloc (aa _) (.cells (iw x f ⟨va,n,vc⟩ s k).toArray 37);have b9:=O c2;have b8:=O c1;clear c2 c1;unfold ry
 go_enter func110,ntmps110
 go_upto_region 1 with fail
 refine gI (fun wx=>hU wx w 37 x f ⟨va,n,vc⟩ s k/\Below w w wx) ⟨b9,b8⟩ ?_;clear b9 b8;rintro w1 ⟨hg,C⟩;have hl:=hg.lt;obtain⟨_,_,_,_,_,_,c6,_⟩:=hg.cells;have Hg:=O hg;have d0:=O C;clear hg C
 go_wp2_with fail
 go_loopw [3] (fun iv wr=>∃i:Nat,i<=n/\iv=.int .i64 (i:Int)/\299999<=jR x.ws i/\(List.range i).all (jM x.ws)=true/\Below w1 w1 wr) (fun iv _=>n-(intOf iv).toNat)
 case atStart=>exact⟨0,by omega,rfl,by simp[jR],rfl,TH _ _⟩
 case round=>
  obtain⟨i,hi,rfl,c8,ho,C⟩:=hrel;have Ho:=O ho;have Hb:=O C;have a0:=O (I d0 C);clear ho C c6;obtain⟨_,_,_,_,c4,_,c6,_⟩:=(Hg.go Hb).cells;have hgl:w.heap.size<wr.heap.size:=ab hl Hb.size
  by_cases c5:i<n
  .have b4:=Hf.go a0
   obtain⟨b1,off,rfl,hlt,x0,x1⟩:=b4.at2 c5;have d1:=O b4;clear b4
   have a2:∀b,jM x.ws i=b->(b=true->(List.range (i+1)).all (jM x.ws)=true)/\(b=false->kz x.prim x.ws n=false):=by
    intro b C;refine⟨fun e=>jl Ho (C.trans e),fun e=>?_⟩;unfold kz;rw[jK c5 (C.trans e)];rfl
   have a7:jM x.ws i=(decide (jR x.ws i<x.ws.getD (i*2) 0)&&decide (x.ws.getD (i*2) 0<=2500000)&&bt (x.ws.getD (i*2+1) 0) 1 100):=rfl
   have a3:jR x.ws (i+1)=x.ws.getD (i*2) 0:=by unfold jR;rw[aj (by omega),cY]
   have a4:jR x.ws i=if i=0 then 299999 else x.ws.getD ((i-1)*2) 0:=rfl
   generalize jR x.ws i=pr at*;generalize hp0:x.ws.getD (i*2) 0=p0 at*;generalize hp1:x.ws.getD (i*2+1) 0=p1 at*;have u:=O a2;have Q:=O a7;have a1:=O a3;have L:=O a4;have d2:=O c8;have C6:=O c6;clear a2 a7 a3 hp0 hp1 a4 c8 c4;have S:=TL wr (.cells #[p0,p1] 63);have a9:=O S;clear S
   go_upto_region 5 with fail
   refine gI (fun wx=>wx.heap[wr.heap.size]? =some (.cells #[p0,p1] 63 (0,0))/\Below wr wr wx) ⟨a9,gY (TH _ _)⟩ ?_;clear a9 x0 x1 c6;rintro X ⟨S,b3⟩;have A:=TK S;have b5:w.heap.size<X.heap.size:=ab hgl b3.size;have y0:=(gA S 0).trans rfl;have y1:=(gA S 1).trans rfl;have a9:=O S;have B:=O b3;clear S b3;cases hq0:bt p0 300000 2500000
   .have Q0:=O hq0
    have r:jM x.ws i=false:=by
     rw[Q];have:=d2.out;simp only[bt,cL,dQ]at hq0⊢;omega
    have P:=O r;clear hq0 r;refine ic 26 [] [] [(0,true),(1,true),(2,false),(3,true),(4,true),(5,true),(6,true),(7,true),(8,true),(9,true),(10,true),(11,true),(12,true),(13,true),(14,true),(15,true),(16,true),(17,true),(18,true),(19,true),(20,true),(21,true),(22,true),(23,true),(24,true),(25,true)] (by kernel_rfl) (by kernel_rfl) ⟨by simp,by simp,fun _ h=>by cases h⟩ (fun _ _ _ _ _ h=>h) (fun _ _ o _ _ h=>by cases o<;>exact h) ?_
    iterate 2
     refine gZ (v:=?_) rfl rfl (by rfl) ?_ ?_;rotate_left
     .intro y H
      have z0:=(H.cell (p:=J (wr.heap.size)) A).trans y0;go_simp
      with_reducible rfl
     try simp only[V]
    refine iK rfl rfl (fun x1 F K z=>?_);go_simp;refine(ix p0 _ _ _).mono ?_;rintro e W ⟨m,q⟩;rw[Q0]at m;subst m;refine z _ _ q ?_;clear z K;have j:Below X X x1:=gJ (k:=1) F;have M:=O (I j q);clear q F j
    iterate 2
     refine iy (v:=?_) rfl (by rfl) ?_ ?_;rotate_left
     .intro y
      go_simp
      with_reducible rfl
     try simp only[V]
    iterate 4
     refine nh rfl (by rfl) ?_
     try simp only[V]
    iterate 2
     refine iy (v:=?_) rfl (by rfl) ?_ ?_;rotate_left
     .intro y
      go_simp
      with_reducible rfl
     try simp only[V]
    iterate 14
     refine nh rfl (by rfl) ?_
     try simp only[V]
    iterate 1
     refine iy (v:=?_) rfl (by rfl) ?_ ?_;rotate_left
     .intro y
      go_simp
      with_reducible rfl
     try simp only[V]
    refine jV (l:=[]) rfl (fun w5 E=>?_);have R:=O (I M E);clear E;go_wp2;go_ret;exact⟨by rw[(u false P).2 rfl];rfl,I a0 (I B R)⟩
   .have c9:300000<=p0/\p0<=2500000:=by simpa[bt]using hq0
    have Q0:=O hq0;have R0:=O c9;clear hq0 c9;cases hq1:bt p1 1 100
    .have Q1:=O hq1
     have r:jM x.ws i=false:=by rw[Q,hq1];simp
     have P:=O r;clear hq1 r;refine ic 26 [] [] [(0,true),(1,true),(2,false),(3,true),(4,true),(5,true),(6,true),(7,false),(8,true),(9,true),(10,true),(11,true),(12,true),(13,true),(14,true),(15,true),(16,true),(17,true),(18,true),(19,true),(20,true),(21,true),(22,true),(23,true),(24,true),(25,true)] (by kernel_rfl) (by kernel_rfl) ⟨by simp,by simp,fun _ h=>by cases h⟩ (fun _ _ _ _ _ h=>h) (fun _ _ o _ _ h=>by cases o<;>exact h) ?_
     iterate 2
      refine gZ (v:=?_) rfl rfl (by rfl) ?_ ?_;rotate_left
      .intro y H
       have z0:=(H.cell (p:=J (wr.heap.size)) A).trans y0;go_simp
       with_reducible rfl
      try simp only[V]
     refine iK rfl rfl (fun x1 F K z=>?_);go_simp;refine(ix p0 _ _ _).mono ?_;rintro e W ⟨m,q⟩;rw[Q0]at m;subst m;refine z _ _ q ?_;clear z K;have j:Below X X x1:=gJ (k:=1) F;have d:=I j q;have k0:=(d.cell (p:=J (wr.heap.size)) A).trans y0;have k1:=(d.cell (p:=⟨wr.heap.size,1,none⟩) A).trans y1;have g:wr.heap.size<W.heap.size:=ab A d.size;have M:=O d;clear q F j d y0 y1
     iterate 2
      refine iy (v:=?_) rfl (by rfl) ?_ ?_;rotate_left
      .intro y
       go_simp
       with_reducible rfl
      try simp only[V]
     iterate 2
      refine gZ (v:=?_) rfl rfl (by rfl) ?_ ?_;rotate_left
      .intro y H
       have z1:=(H.cell (p:=⟨wr.heap.size,1,none⟩) g).trans k1;go_simp
       with_reducible rfl
      try simp only[V]
     refine kH rfl (by rfl) (fun x2 T K z=>?_);go_simp;refine(ix p1 _ _ _).mono ?_;rintro e w4 ⟨m,D⟩;rw[Q1]at m;subst m;refine z _ _ D ?_;clear z K;have t:Below W W x2:=T;have d:=I t D;have m0:=(d.cell (p:=J (wr.heap.size)) g).trans k0;have a5:wr.heap.size<w4.heap.size:=ab g d.size;have N:=O (I M d);clear D T t d k0 k1
     iterate 3
      refine iy (v:=?_) rfl (by rfl) ?_ ?_;rotate_left
      .intro y
       go_simp
       with_reducible rfl
      try simp only[V]
     iterate 14
      refine nh rfl (by rfl) ?_
      try simp only[V]
     iterate 1
      refine iy (v:=?_) rfl (by rfl) ?_ ?_;rotate_left
      .intro y
       go_simp
       with_reducible rfl
      try simp only[V]
     refine jV (l:=[]) rfl (fun w5 E=>?_);have R:=O (I N E);clear E;go_wp2;go_ret;exact⟨by rw[(u false P).2 rfl];rfl,I a0 (I B R)⟩
    .skip
     have Q1:=O hq1;clear hq1
     by_cases c3:i=0
     .subst c3
      have a6:jM x.ws 0=true:=by
       rw[Q,L,aq rfl,Q1];have:=R0.out;simp;omega
      have b0:=O a6;clear a6;refine ic 26 [] [] [(0,true),(1,true),(2,false),(3,true),(4,true),(5,true),(6,true),(7,false),(8,true),(9,true),(10,true),(11,true),(12,true),(13,true),(14,true),(15,true),(16,true),(17,true),(18,true),(19,true),(20,true),(21,true),(22,true),(23,true),(24,true),(25,true)] (by kernel_rfl) (by kernel_rfl) ⟨by simp,by simp,fun _ h=>by cases h⟩ (fun _ _ _ _ _ h=>h) (fun _ _ o _ _ h=>by cases o<;>exact h) ?_
      iterate 2
       refine gZ (v:=?_) rfl rfl (by rfl) ?_ ?_;rotate_left
       .intro y H
        have z0:=(H.cell (p:=J (wr.heap.size)) A).trans y0;go_simp
        with_reducible rfl
       try simp only[V]
      refine iK rfl rfl (fun x1 F K z=>?_);go_simp;refine(ix p0 _ _ _).mono ?_;rintro e W ⟨m,q⟩;rw[Q0]at m;subst m;refine z _ _ q ?_;clear z K;have j:Below X X x1:=gJ (k:=1) F;have d:=I j q;have k0:=(d.cell (p:=J (wr.heap.size)) A).trans y0;have k1:=(d.cell (p:=⟨wr.heap.size,1,none⟩) A).trans y1;have g:wr.heap.size<W.heap.size:=ab A d.size;have M:=O d;clear q F j d y0 y1
      iterate 2
       refine iy (v:=?_) rfl (by rfl) ?_ ?_;rotate_left
       .intro y
        go_simp
        with_reducible rfl
       try simp only[V]
      iterate 2
       refine gZ (v:=?_) rfl rfl (by rfl) ?_ ?_;rotate_left
       .intro y H
        have z1:=(H.cell (p:=⟨wr.heap.size,1,none⟩) g).trans k1;go_simp
        with_reducible rfl
       try simp only[V]
      refine kH rfl (by rfl) (fun x2 T K z=>?_);go_simp;refine(ix p1 _ _ _).mono ?_;rintro e w4 ⟨m,D⟩;rw[Q1]at m;subst m;refine z _ _ D ?_;clear z K;have t:Below W W x2:=T;have d:=I t D;have m0:=(d.cell (p:=J (wr.heap.size)) g).trans k0;have a5:wr.heap.size<w4.heap.size:=ab g d.size;have N:=O (I M d);clear D T t d k0 k1
      iterate 6
       refine iy (v:=?_) rfl (by rfl) ?_ ?_;rotate_left
       .intro y
        go_simp
        with_reducible rfl
       try simp only[V]
      iterate 10
       refine nh rfl (by rfl) ?_
       try simp only[V]
      iterate 2
       refine iy (v:=?_) rfl (by rfl) ?_ ?_;rotate_left
       .intro y
        go_simp
        with_reducible rfl
       try simp only[V]
      refine jV (l:=[]) rfl (fun w5 E=>?_);have R:=O (I N E);clear E;go_wp2
      go_roundw
      case rel=>exact⟨1,by omega,by go_num,by rw[a1];have:=R0.out;omega,(u true b0).1 rfl,I Hb (I B R)⟩
      case measure=>simp[intOf];omega
     .have d6:0<i:=by omega
      have a8:IntKind.i64.wrap ((i:Int)-1)=((i-1:Nat):Int):=by rw[TM _ (by omega)];omega
      have d3:i-1<n:=by omega
      rw[aj c3]at L;have c7:=L.out;obtain⟨b2,o2,e2,d5,z0,-⟩:=(d1).at2 (k:=i-1) d3;cases e2;rw[<- c7]at z0;have Z0:=O z0;clear c7 z0 L
      by_cases d4:pr<p0
      all_goals
       have c0:=O d4;refine ic 26 [] [] [(0,true),(1,true),(2,false),(3,true),(4,true),(5,true),(6,true),(7,false),(8,true),(9,true),(10,true),(11,true),(12,true),(13,true),(14,true),(15,true),(16,true),(17,true),(18,true),(19,true),(20,true),(21,true),(22,true),(23,true),(24,true),(25,true)] (by kernel_rfl) (by kernel_rfl) ⟨by simp,by simp,fun _ h=>by cases h⟩ (fun _ _ _ _ _ h=>h) (fun _ _ o _ _ h=>by cases o<;>exact h) ?_
       iterate 2
        refine gZ (v:=?_) rfl rfl (by rfl) ?_ ?_;rotate_left
        .intro y H
         have z0:=(H.cell (p:=J (wr.heap.size)) A).trans y0;go_simp
         with_reducible rfl
        try simp only[V]
       refine iK rfl rfl (fun x1 F K z=>?_);go_simp;refine(ix p0 _ _ _).mono ?_;rintro e W ⟨m,q⟩;rw[Q0]at m;subst m;refine z _ _ q ?_;clear z K;have j:Below X X x1:=gJ (k:=1) F;have d:=I j q;have k0:=(d.cell (p:=J (wr.heap.size)) A).trans y0;have k1:=(d.cell (p:=⟨wr.heap.size,1,none⟩) A).trans y1;have g:wr.heap.size<W.heap.size:=ab A d.size;have M:=O d;clear q F j d y0 y1
       iterate 2
        refine iy (v:=?_) rfl (by rfl) ?_ ?_;rotate_left
        .intro y
         go_simp
         with_reducible rfl
        try simp only[V]
       iterate 2
        refine gZ (v:=?_) rfl rfl (by rfl) ?_ ?_;rotate_left
        .intro y H
         have z1:=(H.cell (p:=⟨wr.heap.size,1,none⟩) g).trans k1;go_simp
         with_reducible rfl
        try simp only[V]
       refine kH rfl (by rfl) (fun x2 T K z=>?_);go_simp;refine(ix p1 _ _ _).mono ?_;rintro e w4 ⟨m,D⟩;rw[Q1]at m;subst m;refine z _ _ D ?_;clear z K;have t:Below W W x2:=T;have d:=I t D;have m0:=(d.cell (p:=J (wr.heap.size)) g).trans k0;have a5:wr.heap.size<w4.heap.size:=ab g d.size;have N:=O (I M d);clear D T t d k0 k1;have j6:=((I B N).cell (p:=⟨w.heap.size,6,none⟩) hgl).trans C6;have j0:=((I B N).cell (p:=⟨b1,off+(i-1)*2,none⟩) hlt).trans Z0;have b6:w.heap.size<w4.heap.size:=ab b5 N.size;have b7:b1<w4.heap.size:=ab hlt (I B N).size
       iterate 6
        refine iy (v:=?_) rfl (by rfl) ?_ ?_;rotate_left
        .intro y
         go_simp
         with_reducible rfl
        try simp only[V]
       iterate 9
        refine gZ (v:=?_) rfl rfl (by rfl) ?_ ?_;rotate_left
        .intro y H
         have q6:=(H.cell (p:=⟨w.heap.size,6,none⟩) b6).trans j6;have q0:=(H.cell (p:=⟨b1,off+(i-1)*2,none⟩) b7).trans j0;have qm:=(H.cell (p:=J (wr.heap.size)) a5).trans m0;go_simp
         with_reducible rfl
        try simp only[V]
       iterate 3
        refine iy (v:=?_) rfl (by rfl) ?_ ?_;rotate_left
        .intro y
         go_simp
         with_reducible rfl
        try simp only[V]
       refine jV (l:=[]) rfl (fun w5 E=>?_);have R:=O (I N E);clear E
      .have a6:jM x.ws i=true:=by
        rw[Q,Q1];have:=R0.out;have:=c0.out;simp;omega
       have b0:=O a6;clear a6;go_wp2
       go_roundw
       case rel=>exact⟨i+1,by omega,by go_num,by rw[a1];have:=R0.out;omega,(u true b0).1 rfl,I Hb (I B R)⟩
       case measure=>simp[intOf];omega
      .have r:jM x.ws i=false:=by
        rw[Q];have:=c0.out;simp;omega
       have P:=O r;clear r;go_wp2;go_ret;exact⟨by rw[(u false P).2 rfl];rfl,I a0 (I B R)⟩
  .obtain rfl:i=n:=by omega
   have a8:IntKind.i64.wrap ((i:Int)-1)=(i:Int)-1:=TM _ (by omega);cases h1:bt (i:Int) 1 5
   all_goals
    have H1:=O h1;clear h1
    go_wp2_with(first
     |((with_reducible refine(ix (i:Int) 1 5 _).mono ?_);rintro e X ⟨m,C⟩;rw[H1]at m;subst m;replace c4:=(C.cell (p:=⟨w.heap.size,4,none⟩) hgl).trans c4;replace c6:=(C.cell (p:=⟨w.heap.size,6,none⟩) hgl).trans c6;have B:=O C;clear C)
     |((with_reducible refine(ix x.prim 0 ((i:Int)-1) _).mono ?_);rintro e w4 ⟨m,C⟩;subst m;have M:=O C;clear C))
    go_ret;refine⟨by unfold kz;rw[Ho,H1];rfl,?_⟩
    first
     |exact I a0 (I B M)
     |exact I a0 B
def MP(s)(zs:List Int)(n):(sm s&&sr s n)=(uU s&&uV s&&uW s&&xI s&&rI s&&decide (n<=8)):=by
 cases h6:rI s
 .unfold sr;rw[h6];simp
 .unfold sr;rw[h6]
  rw[bJ];unfold sm uU uV uW xI;simp only[jr,eN,List.any_nil,Bool.or_false,am,di,Bool.or_eq_false_iff,dQ,aD,dN,Bool.and_true];omega
def qz(g):g.toList.isEmpty=true↔g=ik:=by
 constructor
 .intro h
  have h1:g.toList=[]:=by simpa using h
  have:g.data.toList=[]:=by rw[ByteArray.toList_eq]at h1;exact h1
  cases g with
  |mk d=>
   have:d=#[]:=by apply fU;simpa using this
   subst this;rfl
 .intro h;subst h;rw[ByteArray.toList_eq];rfl
def Jo(s zs n)(d:zs.length=n*3):rM s n=rK s zs:=by
 have c:zs=[]↔n=0:=by
  constructor
  .intro h;subst h;simp at d;omega
  .intro h;subst h;exact aX.1 (by rw[d])
 have a:=qz s.glass;obtain⟨kind,curv,conic,curvX,conicX,a0,a1,a2,a3,p0,p1,order,thick,glass,semi,hole,dx,dy,ax,ay,az⟩:=s;rw[bJ];unfold rK rM mT qw kK xN rJ;simp only at a⊢
 by_cases h1:kind=1
 .subst h1
  cases hm:kT glass<;>by_cases e:order=0
  all_goals
   simp[jr,hm,e,gW.mk.injEq]
  all_goals try omega
 .by_cases h2:kind=2
  .subst h2
   simp[jr,gW.mk.injEq];omega
  .by_cases h3:kind=3
   .subst h3
    simp[jr,gW.mk.injEq,c]at a⊢;rw[a];constructor<;>intro h<;>simp_all
   .by_cases b:kind=4
    .subst b
     simp[jr,gW.mk.injEq,c]at a⊢;rw[a];constructor<;>intro h<;>simp_all
    .simp[h1,h2,h3,b,jr]
     omega
def Eu(s zs n):uX s zs n=(rK s zs&& (uU s&& (uV s&& (uW s&& (xI s&& (rI s&& (decide (n<=8)&&true))))))):=rfl
def zq(s zs n)(g:zs.length=n*3):tJ s zs n=oA s zs n:=by
 have h:=MP s zs n;unfold tJ nX oA;rw[Eu,Jo s zs n g];rw[bJ]at h⊢;simp only[am]at h⊢;constructor
 .rintro⟨⟨⟨a,f⟩,c⟩,t⟩
  obtain⟨⟨⟨⟨⟨h2,h3⟩,b⟩,h5⟩,d⟩,e⟩:=h.1 ⟨a,c⟩;exact⟨⟨t,h2,h3,b,h5,d,e,trivial⟩,f⟩
 .rintro⟨⟨t,h2,h3,b,h5,d,e,_⟩,f⟩
  obtain⟨a,c⟩:=h.2 ⟨⟨⟨⟨⟨h2,h3⟩,b⟩,h5⟩,d⟩,e⟩;exact⟨⟨⟨a,f⟩,c⟩,t⟩
def lN(s zs a n c)(w:World)(b:IR w w 3 a n c zs)(e:n<=1000000)(d:s.glass.size<=9223372036854775807):
 Calls prog 78 #[.agg (⟨s,a,n,c⟩:jt)] w (iZ w (.bool (oA s zs n))):=by
 rw[<- zq s zs n b.1];exact J9 s zs a n c w b e d
def kM:Nat->ByteArray
 |0=>ik
 |1=>⟨#[66,75,55]⟩
 |2=>⟨#[83,70,45,49]⟩
 |3=>⟨#[77,73,82,82,79,82]⟩
 |_=>⟨#[102,95,50]⟩
def qE(k)(a:k<5):((kM k).toList.isEmpty||kI (kM k))=true:=by
 match k,a with
 |0,_=>rw[(qz (kM 0)).2 rfl];rfl
 |1,_=>rw[show kI (kM 1)=true by decide+kernel];simp
 |2,_=>rw[show kI (kM 2)=true by decide+kernel];simp
 |3,_=>rw[show kI (kM 3)=true by decide+kernel];simp
 |4,_=>rw[show kI (kM 4)=true by decide+kernel];simp
def lD(k):(kM k).size<=9223372036854775807:=by
 match k with
 |0=>decide
 |1=>decide
 |2=>decide
 |3=>decide
 |k+4=>show(ByteArray.mk #[102,95,50]).size<=_;decide
structure SB (s:gW):Prop where
 curv: -1000000000<=s.curv/\s.curv<=1000000000
 curvX: -1000000000<=s.curvX/\s.curvX<=1000000000
 conic: -100000000<=s.conic/\s.conic<=100000000
 conicX: -100000000<=s.conicX/\s.conicX<=100000000
 a0: -1000000000<=s.a0/\s.a0<=1000000000
 a1: -1000000000<=s.a1/\s.a1<=1000000000
 a2: -1000000000<=s.a2/\s.a2<=1000000000
 a3: -1000000000<=s.a3/\s.a3<=1000000000
 p0: -1000000000<=s.p0/\s.p0<=1000000000
 p1: -1000000000<=s.p1/\s.p1<=1000000000
 order: -3<=s.order/\s.order<=3
 thick: -1000000000<=s.thick/\s.thick<=1000000000
 semi:0<=s.semi/\s.semi<=1000000000
 hole:0<=s.hole/\s.hole<=1000000000/\(s.semi=0\/s.hole<s.semi)
 dx: -1000000000<=s.dx/\s.dx<=1000000000
 dy: -1000000000<=s.dy/\s.dy<=1000000000
 ax: -90000000<=s.ax/\s.ax<=90000000
 ay: -90000000<=s.ay/\s.ay<=90000000
 az: -90000000<=s.az/\s.az<=90000000
 glass:(s.glass.toList.isEmpty||kI s.glass)=true
def mY{lo hi z}(h:lo<=z/\z<=hi):jr lo hi [z]=false:=by simp[jr];omega
def zP{s zs n}(d:zs.length=n*3)(e:n<=8)(hf:(List.range n).all (mP zs)=true)(h:SB s)(c:rM s n=true):oA s zs n=true:=by
 rw[<- zq s zs n d];unfold tJ nX
 have a:sm s=true:=by
  unfold sm;rw[nY _ _ s.a0,nY _ _ s.a1,nY _ _ s.a2,mY h.a0,mY h.a1,mY h.a2,mY h.a3];rfl
 have b:sr s n=true:=by
  unfold sr rI;rw[mY h.curv,mY h.curvX,mY h.conic,mY h.conicX,mY h.p0,mY h.p1,mY h.thick,mY h.dx,mY h.dy,mY h.ax,mY h.ay,mY h.az,h.glass];have h1:=h.semi;have h2:=h.hole;have h3:=h.order;simp;omega
 rw[a,hf,b,c];rfl
def mR:gW:=⟨0,0,0,0,0,0,0,0,0,0,0,0,0,ik,0,0,0,0,0,0,0⟩
def Tryz.infoDrS:(prog.info? 153).map (·.size)=some 22:=by kernel_rfl
def wu{ops d e f w}{Q:Exit->Act->World->Prop}{b o x a n c}(h:w.rangeAt b o (pg x a n c))(g:e.guard=none)(y)(j:e.op=.load 153 y)(k:f.eval y=.pointer (some ⟨b,o,none⟩))(i:wpList prog ops Q d (f.put e.dst (Rf x a n c)) w):wpList prog ops Q (e::d) f w:=
 wpList_load_mid g 153 y j b o k (pg x a n c) _ h underlying153 rfl Tryz.infoDrS i
def EV(w):Calls prog 104 #[] w (fun e w'=>e=.returned (.slice (J (w.heap.size)) 5 5)/\(∀k,k<5->w'.cell? ⟨w.heap.size,k,none⟩=some (.string (kM k)))/\w.heap.size<w'.heap.size/\Below w w w'):=by
 go_enter func104,ntmps104
 go_wp2;go_ret;refine⟨rfl,fun k a=>?_,by simp,gY (TH _ _)⟩;rw[World.cell?_alloc_at _ _ _ _ rfl]
 match k,a with
 |0,_=>rfl
 |1,_=>rfl
 |2,_=>rfl
 |3,_=>rfl
 |4,_=>rfl
structure D9 (w:World) (x:tz) (a:Option Addr) (n c:Nat) (g:Nat) (s:gW) (zs:List Int) (ca:Option Addr) (cn cc:Nat) (wx:World):Prop where
 d:Bj wx w x a n c
 z:wx.heap[w.heap.size+1]? =some (.cells zS 70 (0,0))
 s:Y wx g s ca cn cc
 gt:w.heap.size+1<g
 b:Below w w wx
 f:jN (fun b=>w.heap.size<=b/\b<wx.heap.size/\b≠w.heap.size+1/\b≠g) wx ca cn cc zs
 cc:ca=none->cc=0
def D9.set{w x a n c g s zs j cn cc e}(h:D9 w x a n c g s zs j cn cc e)(i v s')(m:Y (e.setCell ⟨g,i,none⟩ v) g s' j cn cc):
 D9 w x a n c g s' zs j cn cc (e.setCell ⟨g,i,none⟩ v):=by
 have k:gN (fun b=>b≠g) e (e.setCell ⟨g,i,none⟩ v):=gK g [v] i e;have o:(e.setCell ⟨g,i,none⟩ v).heap.size=e.heap.size:=im g [v] i e;have q:=h.gt;exact⟨(k _ (by omega)).trans h.d,(k _ (by omega)).trans h.z,m,h.gt,h.b.setCell (p:=⟨g,i,none⟩) (by show w.heap.size<=g;omega) v,h.f.kept (k.mono (fun b h=>h.2.2.2)) (fun b l=>by rw[o];exact l),h.cc⟩
def D9.coat{w x a n c g s zs m t e cn cc i f l j}(h:D9 w x a n c g s zs t cn cc l)(k:Below l l j)(hf:jN (fun b=>l.heap.size<=b/\b<j.heap.size) j e i f m)(u:e=none->f=0):D9 w x a n c g s m e i f (j.setCell ⟨g,21,none⟩ (.slice e i f)):=by
 have o:gN (fun b=>b≠g) j (j.setCell ⟨g,21,none⟩ (.slice e i f)):=gK g [Z e i f] 21 j;have v:(j.setCell ⟨g,21,none⟩ (.slice e i f)).heap.size=j.heap.size:=im g [Z e i f] 21 j;have A:=h.gt;have hgl:=h.s.lt;have r:=TK h.z;have y:=TK h.d;refine⟨(o _ (by omega)).trans (h.d.go k),(o _ (by omega)).trans ((k.block _ r).trans h.z),Y.coat (h.s.go k hgl) _ _ _,h.gt,(I h.b k).setCell (p:=⟨g,21,none⟩) (by show w.heap.size<=g;omega) _,hf.kept (o.mono (fun b h=>by have:=h.1;omega)) (fun b q=>?_),u⟩;rw[v];have:=q.1;exact⟨by omega,q.2,by omega,by omega⟩
def D9.put{w x a n c g s zs i cn cc e}(h:D9 w x a n c g s zs i cn cc e)(s'):D9 w x a n c g s' [] none 0 0 (vS e g s' none 0 0):=by
 have f:gN (fun b=>b≠g) e (vS e g s' none 0 0):=gK g (gX s' none 0 0) 0 e;have j:=h.gt;exact⟨(f _ (by omega)).trans h.d,(f _ (by omega)).trans h.z,Y.stored h.s rfl _ _ _ _,h.gt,Below.put22 h.b (by omega) _ _ _ _,jN.nil _ _,fun _=>rfl⟩
def S9{z:Int}(h:z.tmod 2≠0):z.tmod 4≠0:=fun e=>h (Int.tmod_eq_zero_of_dvd (Int.dvd_trans (by decide:(2:Int)∣ 4) (Int.dvd_of_tmod_eq_zero e)))
def sA(x:tz)(s:gW):Nat->gW
 |0=>s
 |1=>{s with a0:=1000*x.h0}
 |2=>{s with a0:=1000*x.h0,a1:=1000*x.h1}
 |3=>{s with a0:=1000*x.h0,a1:=1000*x.h1,a2:=1000*x.h2}
 |_=>{s with a0:=1000*x.h0,a1:=1000*x.h1,a2:=1000*x.h2,a3:=1000*x.h3}
def jH(x:tz)(mk a:Int)(g:Nat):gW:={mR with kind:=1,curv:=1000*x.c0,conic:=1000*mk,thick:=1000*a,glass:=kM g,semi:=100000*x.semi}
def tz.In.all{x:tz}(h:x.In):(-32768<=x.c0/\x.c0<=32767/\ -32768<=x.c1/\x.c1<=32767)/\(-128<=x.h0/\x.h0<=127/\ -128<=x.h1/\x.h1<=127/\ -128<=x.h2/\x.h2<=127/\ -128<=x.h3/\x.h3<=127)/\(-128<=x.p0/\x.p0<=127/\ -128<=x.p1/\x.p1<=127)/\(0<=x.semi/\x.semi<=255)/\
 (-128<=x.b0/\x.b0<=127/\ -128<=x.b1/\x.b1<=127/\ -128<=x.b2/\x.b2<=127/\ -128<=x.b3/\x.b3<=127/\ -128<=x.b4/\x.b4<=127):=by
 obtain⟨_,⟨_,_⟩,⟨_,_⟩,_,_,⟨_,_⟩,⟨_,_⟩,⟨_,_⟩,⟨_,_⟩,⟨_,_⟩,⟨_,_⟩,_,_,_,⟨_,_⟩,_,⟨_,_⟩,⟨_,_⟩,⟨_,_⟩,⟨_,_⟩,⟨_,_⟩⟩:=h;omega
def Ri{x}(d:x.In){mk a h c}(e: -3000<mk/\mk<3000)(f: -20000<a/\a<20000)(b:c<5)(h0:0<=h)(h1:h=0\/h<100000*x.semi):
 oA {jH x mk a c with hole:=h} [] 0=true:=by
 have g:=d.all;refine zP rfl (by omega) rfl ?_ ?_
 .constructor<;>first|exact qE _ b|(simp only[jH,mR];omega)
 .simp[rM,mT,kK,jH,mR]
def PG{x}(d:x.In){mk a h c}(f: -3000<mk/\mk<3000)(g: -20000<a/\a<20000)(b:c<5)(h0:0<=h)(h1:h=0\/h<100000*x.semi){zs n}(e:zs.length=n*3)(i:n<=3)(hf:(List.range n).all (mP zs)=true):
 oA (sA x {jH x mk a c with hole:=h} 4) zs n=true:=by
 have j:=d.all;refine zP e (by omega) hf ?_ ?_
 .constructor<;>first|exact qE _ b|(simp only[sA,jH,mR];omega)
 .simp[rM,mT,kK,sA,jH,mR]
def Rj{x}(e:x.In){mk b h a d}(g: -3000<mk/\mk<3000)(f: -3000<a/\a<3000)(i: -20000<b/\b<20000)(c:d<5)(h0:0<=h)(h1:h=0\/h<100000*x.semi):
 oA {jH x mk b d with hole:=h,kind:=2,curvX:=1000*x.c1,conicX:=1000*a} [] 0=true:=by
 have j:=e.all;refine zP rfl (by omega) rfl ?_ ?_
 .constructor<;>first|exact qE _ c|(simp only[jH,mR];omega)
 .simp[rM,qw,kK,jH,mR]
def wv(x:tz)(a:Int):gW:={mR with kind:=3,thick:=1000*a,dx:=10000*x.b0,dy:=10000*x.b1,ax:=100000*x.b2,ay:=100000*x.b3,az:=100000*x.b4}
def Rk{x}(c:x.In){a}(d: -20000<a/\a<20000):oA (wv x a) [] 0=true:=by
 have e:=c.all;have b:=(qz ik).2 rfl;refine zP rfl (by omega) rfl ?_ ?_
 .constructor<;>first|exact qE 0 (by omega)|(simp only[wv,mR];omega)|(simp[wv,mR])
 .simp[rM,mT,qw,xN,wv,mR,b]
def Cj(x:tz)(a h:Int):gW:={mR with kind:=4,curv:=1000*x.c0,thick:=1000*a,semi:=100000*x.semi,hole:=h}
def Rl{x}(c:x.In){a h}(d: -20000<a/\a<20000)(h0:0<=h)(h1:h=0\/h<100000*x.semi):oA (Cj x a h) [] 0=true:=by
 have e:=c.all;have b:=(qz ik).2 rfl;refine zP rfl (by omega) rfl ?_ ?_
 .constructor<;>first|exact qE 0 (by omega)|(simp only[Cj,mR];omega)
 .simp[rM,mT,qw,kK,xN,Cj,mR,b]
def Rm{x}(g:x.In){mk c h a b}(i: -3000<mk/\mk<3000)(k: -20000<c/\c<20000)(e:b<5)(h0:0<=h)(h1:h=0\/h<100000*x.semi)(j: -4<a/\a<4)(d:a≠0)(f:kT (kM b)=false):
 oA {jH x mk c b with hole:=h,order:=a,p0:=1000*x.p0,p1:=1000*x.p1} [] 0=true:=by
 have l:=g.all;refine zP rfl (by omega) rfl ?_ ?_
 .constructor<;>first|exact qE _ e|(simp only[jH,mR];omega)
 .simp[rM,mT,kK,jH,mR,d,f]
def xh(x:tz):Int:=if x.hole.tmod 4=1/\0<x.semi then(100000*x.semi).tdiv 4 else 0
def zQ(x:tz):gW:={jH x (x.k0.tmod 3000) (x.thick.tmod 20000) (x.glass.tmod 5).toNat with hole:=xh x}
def oh(x:tz):gM:=
 if x.kind.tmod 8=4 then⟨sA x (zQ x) 4,sI x.films (min 3 x.films.length)⟩
 else if x.kind.tmod 8=5 then⟨{zQ x with kind:=2,curvX:=1000*x.c1,conicX:=1000*x.k1.tmod 3000},[]⟩
 else if x.kind.tmod 8=6 then⟨wv x (x.thick.tmod 20000),[]⟩
 else if x.kind.tmod 8=7 then
  (if x.order.tmod 2=0 then⟨Cj x (x.thick.tmod 20000) (xh x),[]⟩
   else if kT (kM (x.glass.tmod 5).toNat)=true then⟨zQ x,[]⟩
   else⟨{zQ x with order:=x.order.tmod 4,p0:=1000*x.p0,p1:=1000*x.p1},[]⟩)
 else⟨zQ x,[]⟩
def Rn{x mk b h}{a:Nat}(h1:x.k0.tmod 3000=mk)(h2:x.thick.tmod 20000=b)(h3:x.glass.tmod 5=(a:Int))(c:h=xh x):{jH x mk b a with hole:=h}=zQ x:=by
 unfold zQ;rw[h1,h2,h3,c];rfl
def Nn(x:tz)(w:World)(e:Ending)(w':World):Prop:=
 ∃(s:gW)(a:Option Addr)(n c:Nat)(zs:List Int),(⟨s,zs⟩:gM)=oh x/\e=.returned (.agg (⟨s,a,n,c⟩:jt))/\jN (fun b=>w.heap.size<=b/\b<w'.heap.size) w' a n c zs/\(a=none->c=0)/\n<=3/\oA s zs n=true/\s.glass.size<=9223372036854775807/\Below w w w'
def uD{w x a n c g s zs d cn cc e}(h:D9 w x a n c g s zs d cn cc e)(m:(⟨s,zs⟩:gM)=oh x)(l:oA s zs cn=true)(k:cn<=3)(i:s.glass.size<=9223372036854775807):
 Nn x w (.returned (.agg (⟨s,d,cn,cc⟩:jt))) (vS e (w+1) s d cn cc):=by
 have j:gN (fun b=>b≠w.heap.size+1) e (vS e (w+1) s d cn cc):=gK (w+1) (gX s d cn cc) 0 e;have o:(vS e (w+1) s d cn cc).heap.size=e.heap.size:=im (w+1) (gX s d cn cc) 0 e;exact⟨s,d,cn,cc,zs,m,rfl,h.f.kept (j.mono (fun b h=>h.2.2.1)) (fun b h=>⟨h.1,by rw[o];exact h.2.1⟩),h.cc,k,l,i,Below.put22 h.b (bY _) _ _ _ _⟩
def No{w x a n c g s s' zs e cn cc d}(h:D9 w x a n c g s zs e cn cc d)(j:(⟨s',[]⟩:gM)=oh x)(i:oA s' [] 0=true)(f:s'.glass.size<=9223372036854775807):
 Nn x w (.returned (.agg (⟨s',none,0,0⟩:jt))) (vS d (w+1) s' none 0 0):=
 ⟨s',none,0,0,[],j,rfl,jN.nil _ _,fun _=>rfl,by omega,i,f,Below.put22 h.b (bY _) _ _ _ _⟩
def Bj.range{w g x a n c}(h:Bj w g x a n c):w.rangeAt g 0 (pg x a n c):=by
 intro j v b;rw[gA h];simpa using b
end Go.Proofs.YtgohdcccfkjooaaGreatDoor
