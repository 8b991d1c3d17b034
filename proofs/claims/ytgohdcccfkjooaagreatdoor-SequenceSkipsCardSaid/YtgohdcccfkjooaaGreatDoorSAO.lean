import Derived.Test.YtgohdcccfkjooaaGreatDoorSAK
namespace Go.Proofs.YtgohdcccfkjooaaGreatDoor
set_option linter.all false
set_option maxRecDepth 100000
set_option maxHeartbeats 3200000
open Go.Proofs.Tryz Go.RowKit
def vu(x f v s k)(w:World)(hf:IR w w 2 v.a v.n v.c x.ws)(hn:v.n<=1000000):
 Calls prog 110 #[ry x f v s k] w (iZ w (.bool (kz x.prim x.ws v.n))):=by
 have Hf:=O hf;clear hf;obtain⟨va,n,vc⟩:=v;simp only at*
 show Calls _ _ _ w (iZ w (.bool (kz x.prim x.ws n)))
 have c2:hU (w.alloc (.cells (iw x f ⟨va,n,vc⟩ s k).toArray 37)) w 37 x f ⟨va,n,vc⟩ s k:=TL w _;have c1:=(TH w w).alloc (aa _) (.cells (iw x f ⟨va,n,vc⟩ s k).toArray 37);have b9:=O c2;have b8:=O c1;clear c2 c1;unfold ry;go_enter func110,ntmps110;go_upto_region 1 with fail;refine gI (fun wx=>hU wx w 37 x f ⟨va,n,vc⟩ s k/\Below w w wx) ⟨b9,b8⟩ ?_;clear b9 b8;rintro w1 ⟨hg,C⟩;have hl:=hg.lt;obtain⟨_,_,_,_,_,_,c6,_⟩:=hg.cells;have Hg:=O hg;have d0:=O C;clear hg C;go_wp2_with fail
 go_loopw [3] (fun iv wr=>∃i:Nat,i<=n/\iv=.int .i64 (i:Int)/\299999<=jR x.ws i/\(List.range i).all (jM x.ws)=true/\Below w1 w1 wr) (fun iv _=>n-(intOf iv).toNat)
 case atStart=>exact⟨0,by omega,rfl,by simp[jR],rfl,TH _ _⟩
 case round=>
  obtain⟨i,hi,rfl,c8,ho,C⟩:=hrel;have Ho:=O ho;have Hb:=O C;have a0:=O (I d0 C);clear ho C c6;obtain⟨_,_,_,_,c4,_,c6,_⟩:=(Hg.go Hb).cells;have hgl:w.heap.size<wr.heap.size:=ab hl Hb.size;by_cases c5:i<n
  .have b4:=Hf.go a0
   obtain⟨b1,off,rfl,hlt,x0,x1⟩:=b4.at2 c5;have d1:=O b4;clear b4
   have a2:∀b,jM x.ws i=b->(b=true->(List.range (i+1)).all (jM x.ws)=true)/\(b=false->kz x.prim x.ws n=false):=by
    intro b C;refine⟨fun e=>jl Ho (C.trans e),fun e=>?_⟩;unfold kz;rw[jK c5 (C.trans e)];rfl
   have a7:jM x.ws i=(decide (jR x.ws i<x.ws.getD (i*2) 0)&&decide (x.ws.getD (i*2) 0<=2500000)&&bt (x.ws.getD (i*2+1) 0) 1 100):=rfl
   have a3:jR x.ws (i+1)=x.ws.getD (i*2) 0:=by unfold jR;rw[aj (by omega),cY]
   have a4:jR x.ws i=if i=0 then 299999 else x.ws.getD ((i-1)*2) 0:=rfl
   generalize jR x.ws i=pr at*;generalize hp0:x.ws.getD (i*2) 0=p0 at*;generalize hp1:x.ws.getD (i*2+1) 0=p1 at*;have u:=O a2;have Q:=O a7;have a1:=O a3;have L:=O a4;have d2:=O c8;have C6:=O c6;clear a2 a7 a3 hp0 hp1 a4 c8 c4;have S:=TL wr (.cells #[p0,p1] 63);have a9:=O S;clear S;go_upto_region 5 with fail;refine gI (fun wx=>wx.heap[wr.heap.size]? =some (.cells #[p0,p1] 63 (0,0))/\Below wr wr wx) ⟨a9,gY (TH _ _)⟩ ?_;clear a9 x0 x1 c6;rintro X ⟨S,b3⟩;have A:=TK S;have b5:w.heap.size<X.heap.size:=ab hgl b3.size;have y0:=(gA S 0).trans rfl;have y1:=(gA S 1).trans rfl;have a9:=O S;have B:=O b3;clear S b3;cases hq0:bt p0 300000 2500000
   .have Q0:=O hq0
    have r:jM x.ws i=false:=by
     rw[Q];have:=d2.out;simp only[bt,cL,dQ]at hq0⊢;omega
    have P:=O r;clear hq0 r;refine ic 26 [] [] [(0,true),(1,true),(2,false),(3,true),(4,true),(5,true),(6,true),(7,true),(8,true),(9,true),(10,true),(11,true),(12,true),(13,true),(14,true),(15,true),(16,true),(17,true),(18,true),(19,true),(20,true),(21,true),(22,true),(23,true),(24,true),(25,true)] (by kernel_rfl) (by kernel_rfl) ⟨by simp,by simp,fun _ h=>by cases h⟩ (fun _ _ _ _ _ h=>h) (fun _ _ o _ _ h=>by cases o<;>exact h) ?_
    iterate 2
     refine gZ (v:=?_) ?_ ?_;rotate_left
     .intro y H
      have z0:=(H.cell (p:=J (wr.heap.size)) A).trans y0;go_simp;rfl
     try simp only[V]
    refine iK (fun x1 F K z=>?_);go_simp;refine(ix p0 _ _ _).mono ?_;rintro e W ⟨m,q⟩;rw[Q0]at m;subst m;refine z _ _ q ?_;clear z K;have j:Below X X x1:=gJ (k:=1) F;have M:=O (I j q);clear q F j
    iterate 2
     refine iy (v:=?_) ?_ ?_;rotate_left
     .intro y
      go_simp;rfl
     try simp only[V]
    iterate 4
     refine nh rfl (by rfl) ?_;try simp only[V]
    iterate 2
     refine iy (v:=?_) ?_ ?_;rotate_left
     .intro y
      go_simp;rfl
     try simp only[V]
    iterate 14
     refine nh rfl (by rfl) ?_;try simp only[V]
    iterate 1
     refine iy (v:=?_) ?_ ?_;rotate_left
     .intro y
      go_simp;rfl
     try simp only[V]
    refine jV (l:=[]) rfl (fun w5 E=>?_);have R:=O (I M E);clear E;go_wp2;go_ret;exact⟨by rw[(u false P).2 rfl];rfl,I a0 (I B R)⟩
   .have c9:300000<=p0/\p0<=2500000:=by simpa[bt]using hq0
    have Q0:=O hq0;have R0:=O c9;clear hq0 c9;cases hq1:bt p1 1 100
    .have Q1:=O hq1
     have r:jM x.ws i=false:=by rw[Q,hq1];simp
     have P:=O r;clear hq1 r;refine ic 26 [] [] [(0,true),(1,true),(2,false),(3,true),(4,true),(5,true),(6,true),(7,false),(8,true),(9,true),(10,true),(11,true),(12,true),(13,true),(14,true),(15,true),(16,true),(17,true),(18,true),(19,true),(20,true),(21,true),(22,true),(23,true),(24,true),(25,true)] (by kernel_rfl) (by kernel_rfl) ⟨by simp,by simp,fun _ h=>by cases h⟩ (fun _ _ _ _ _ h=>h) (fun _ _ o _ _ h=>by cases o<;>exact h) ?_
     iterate 2
      refine gZ (v:=?_) ?_ ?_;rotate_left
      .intro y H
       have z0:=(H.cell (p:=J (wr.heap.size)) A).trans y0;go_simp;rfl
      try simp only[V]
     refine iK (fun x1 F K z=>?_);go_simp;refine(ix p0 _ _ _).mono ?_;rintro e W ⟨m,q⟩;rw[Q0]at m;subst m;refine z _ _ q ?_;clear z K;have j:Below X X x1:=gJ (k:=1) F;have d:=I j q;have k0:=(d.cell (p:=J (wr.heap.size)) A).trans y0;have k1:=(d.cell (p:=⟨wr.heap.size,1,none⟩) A).trans y1;have g:wr.heap.size<W.heap.size:=ab A d.size;have M:=O d;clear q F j d y0 y1
     iterate 2
      refine iy (v:=?_) ?_ ?_;rotate_left
      .intro y
       go_simp;rfl
      try simp only[V]
     iterate 2
      refine gZ (v:=?_) ?_ ?_;rotate_left
      .intro y H
       have z1:=(H.cell (p:=⟨wr.heap.size,1,none⟩) g).trans k1;go_simp;rfl
      try simp only[V]
     refine kH rfl (by rfl) (fun x2 T K z=>?_);go_simp;refine(ix p1 _ _ _).mono ?_;rintro e w4 ⟨m,D⟩;rw[Q1]at m;subst m;refine z _ _ D ?_;clear z K;have t:Below W W x2:=T;have d:=I t D;have m0:=(d.cell (p:=J (wr.heap.size)) g).trans k0;have a5:wr.heap.size<w4.heap.size:=ab g d.size;have N:=O (I M d);clear D T t d k0 k1
     iterate 3
      refine iy (v:=?_) ?_ ?_;rotate_left
      .intro y
       go_simp;rfl
      try simp only[V]
     iterate 14
      refine nh rfl (by rfl) ?_;try simp only[V]
     iterate 1
      refine iy (v:=?_) ?_ ?_;rotate_left
      .intro y
       go_simp;rfl
      try simp only[V]
     refine jV (l:=[]) rfl (fun w5 E=>?_);have R:=O (I N E);clear E;go_wp2;go_ret;exact⟨by rw[(u false P).2 rfl];rfl,I a0 (I B R)⟩
    .skip
     have Q1:=O hq1;clear hq1;by_cases c3:i=0
     .subst c3
      have a6:jM x.ws 0=true:=by
       rw[Q,L,aq rfl,Q1];have:=R0.out;simp;omega
      have b0:=O a6;clear a6;refine ic 26 [] [] [(0,true),(1,true),(2,false),(3,true),(4,true),(5,true),(6,true),(7,false),(8,true),(9,true),(10,true),(11,true),(12,true),(13,true),(14,true),(15,true),(16,true),(17,true),(18,true),(19,true),(20,true),(21,true),(22,true),(23,true),(24,true),(25,true)] (by kernel_rfl) (by kernel_rfl) ⟨by simp,by simp,fun _ h=>by cases h⟩ (fun _ _ _ _ _ h=>h) (fun _ _ o _ _ h=>by cases o<;>exact h) ?_
      iterate 2
       refine gZ (v:=?_) ?_ ?_;rotate_left
       .intro y H
        have z0:=(H.cell (p:=J (wr.heap.size)) A).trans y0;go_simp;rfl
       try simp only[V]
      refine iK (fun x1 F K z=>?_);go_simp;refine(ix p0 _ _ _).mono ?_;rintro e W ⟨m,q⟩;rw[Q0]at m;subst m;refine z _ _ q ?_;clear z K;have j:Below X X x1:=gJ (k:=1) F;have d:=I j q;have k0:=(d.cell (p:=J (wr.heap.size)) A).trans y0;have k1:=(d.cell (p:=⟨wr.heap.size,1,none⟩) A).trans y1;have g:wr.heap.size<W.heap.size:=ab A d.size;have M:=O d;clear q F j d y0 y1
      iterate 2
       refine iy (v:=?_) ?_ ?_;rotate_left
       .intro y
        go_simp;rfl
       try simp only[V]
      iterate 2
       refine gZ (v:=?_) ?_ ?_;rotate_left
       .intro y H
        have z1:=(H.cell (p:=⟨wr.heap.size,1,none⟩) g).trans k1;go_simp;rfl
       try simp only[V]
      refine kH rfl (by rfl) (fun x2 T K z=>?_);go_simp;refine(ix p1 _ _ _).mono ?_;rintro e w4 ⟨m,D⟩;rw[Q1]at m;subst m;refine z _ _ D ?_;clear z K;have t:Below W W x2:=T;have d:=I t D;have m0:=(d.cell (p:=J (wr.heap.size)) g).trans k0;have a5:wr.heap.size<w4.heap.size:=ab g d.size;have N:=O (I M d);clear D T t d k0 k1
      iterate 6
       refine iy (v:=?_) ?_ ?_;rotate_left
       .intro y
        go_simp;rfl
       try simp only[V]
      iterate 10
       refine nh rfl (by rfl) ?_;try simp only[V]
      iterate 2
       refine iy (v:=?_) ?_ ?_;rotate_left
       .intro y
        go_simp;rfl
       try simp only[V]
      refine jV (l:=[]) rfl (fun w5 E=>?_);have R:=O (I N E);clear E;go_wp2
      go_roundw
      case rel=>exact⟨1,by omega,by go_num,by rw[a1];have:=R0.out;omega,(u true b0).1 rfl,I Hb (I B R)⟩
      case measure=>simp[intOf];omega
     .have d6:0<i:=by omega
      have a8:IntKind.i64.wrap ((i:Int)-1)=((i-1:Nat):Int):=by rw[TM _ (by omega)];omega
      have d3:i-1<n:=by omega
      rw[aj c3]at L;have c7:=L.out;obtain⟨b2,o2,e2,d5,z0,-⟩:=(d1).at2 (k:=i-1) d3;cases e2;rw[<- c7]at z0;have Z0:=O z0;clear c7 z0 L;by_cases d4:pr<p0
      all_goals
       have c0:=O d4;refine ic 26 [] [] [(0,true),(1,true),(2,false),(3,true),(4,true),(5,true),(6,true),(7,false),(8,true),(9,true),(10,true),(11,true),(12,true),(13,true),(14,true),(15,true),(16,true),(17,true),(18,true),(19,true),(20,true),(21,true),(22,true),(23,true),(24,true),(25,true)] (by kernel_rfl) (by kernel_rfl) ⟨by simp,by simp,fun _ h=>by cases h⟩ (fun _ _ _ _ _ h=>h) (fun _ _ o _ _ h=>by cases o<;>exact h) ?_
       iterate 2
        refine gZ (v:=?_) ?_ ?_;rotate_left
        .intro y H
         have z0:=(H.cell (p:=J (wr.heap.size)) A).trans y0;go_simp;rfl
        try simp only[V]
       refine iK (fun x1 F K z=>?_);go_simp;refine(ix p0 _ _ _).mono ?_;rintro e W ⟨m,q⟩;rw[Q0]at m;subst m;refine z _ _ q ?_;clear z K;have j:Below X X x1:=gJ (k:=1) F;have d:=I j q;have k0:=(d.cell (p:=J (wr.heap.size)) A).trans y0;have k1:=(d.cell (p:=⟨wr.heap.size,1,none⟩) A).trans y1;have g:wr.heap.size<W.heap.size:=ab A d.size;have M:=O d;clear q F j d y0 y1
       iterate 2
        refine iy (v:=?_) ?_ ?_;rotate_left
        .intro y
         go_simp;rfl
        try simp only[V]
       iterate 2
        refine gZ (v:=?_) ?_ ?_;rotate_left
        .intro y H
         have z1:=(H.cell (p:=⟨wr.heap.size,1,none⟩) g).trans k1;go_simp;rfl
        try simp only[V]
       refine kH rfl (by rfl) (fun x2 T K z=>?_);go_simp;refine(ix p1 _ _ _).mono ?_;rintro e w4 ⟨m,D⟩;rw[Q1]at m;subst m;refine z _ _ D ?_;clear z K;have t:Below W W x2:=T;have d:=I t D;have m0:=(d.cell (p:=J (wr.heap.size)) g).trans k0;have a5:wr.heap.size<w4.heap.size:=ab g d.size;have N:=O (I M d);clear D T t d k0 k1;have j6:=((I B N).cell (p:=⟨w.heap.size,6,none⟩) hgl).trans C6;have j0:=((I B N).cell (p:=⟨b1,off+(i-1)*2,none⟩) hlt).trans Z0;have b6:w.heap.size<w4.heap.size:=ab b5 N.size;have b7:b1<w4.heap.size:=ab hlt (I B N).size
       iterate 6
        refine iy (v:=?_) ?_ ?_;rotate_left
        .intro y
         go_simp;rfl
        try simp only[V]
       iterate 9
        refine gZ (v:=?_) ?_ ?_;rotate_left
        .intro y H
         have q6:=(H.cell (p:=⟨w.heap.size,6,none⟩) b6).trans j6;have q0:=(H.cell (p:=⟨b1,off+(i-1)*2,none⟩) b7).trans j0;have qm:=(H.cell (p:=J (wr.heap.size)) a5).trans m0;go_simp;rfl
        try simp only[V]
       iterate 3
        refine iy (v:=?_) ?_ ?_;rotate_left
        .intro y
         go_simp;rfl
        try simp only[V]
       refine jV (l:=[]) rfl (fun w5 E=>?_);have R:=O (I N E);clear E
      .have a6:jM x.ws i=true:=by
        rw[Q,Q1];have:=R0.out;have:=c0.out;simp;omega
       have b0:=O a6;clear a6;go_wp2
       go_roundw
       case rel=>exact⟨i+1,by omega,by go_num,by rw[a1];have:=R0.out;omega,(u true b0).1 rfl,I Hb (I B R)⟩
       case measure=>simp[intOf];omega
      .have r:jM x.ws i=false:=by
        rw[Q];have:=c0.out;simp;omega
       have P:=O r;clear r;go_wp2;go_ret;exact⟨by rw[(u false P).2 rfl];rfl,I a0 (I B R)⟩
  .obtain rfl:i=n:=by omega
   have a8:IntKind.i64.wrap ((i:Int)-1)=(i:Int)-1:=TM _ (by omega);cases h1:bt (i:Int) 1 5
   all_goals
    have H1:=O h1;clear h1
    go_wp2_with(first
     |((with_reducible refine(ix (i:Int) 1 5 _).mono ?_);rintro e X ⟨m,C⟩;rw[H1]at m;subst m;replace c4:=(C.cell (p:=⟨w.heap.size,4,none⟩) hgl).trans c4;replace c6:=(C.cell (p:=⟨w.heap.size,6,none⟩) hgl).trans c6;have B:=O C;clear C)
     |((with_reducible refine(ix x.prim 0 ((i:Int)-1) _).mono ?_);rintro e w4 ⟨m,C⟩;subst m;have M:=O C;clear C))
    go_ret;refine⟨by unfold kz;rw[Ho,H1];rfl,?_⟩
    first
     |exact I a0 (I B M)
     |exact I a0 B
