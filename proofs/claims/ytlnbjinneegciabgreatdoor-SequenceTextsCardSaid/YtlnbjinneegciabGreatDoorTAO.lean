import Derived.Test.YtlnbjinneegciabGreatDoorTAL
namespace Go.Proofs.YtlnbjinneegciabGreatDoor
set_option linter.all false
set_option maxRecDepth 100000
set_option maxHeartbeats 3200000
open Go.Proofs.Tryz Go.RowKit
def vu(x:gR)(f v s k:iJ)(w:World)(hf:IR w w 2 v.a v.n v.c x.ws)(hn:v.n<=1000000):
 Calls prog 54 #[ry x f v s k] w (iZ w (.bool (VY x.p9 x.ws v.n))):=by
 have Hf:=O hf;clear hf;obtain⟨va,n,vc⟩:=v;simp only at*
 show Calls _ _ _ w (iZ w (.bool (VY x.p9 x.ws n)))
 have b8:=O (show kr (w.alloc (.cells (iw x f ⟨va,n,vc⟩ s k).toArray 37)) w 37 x f ⟨va,n,vc⟩ s k from TL w _);have b7:=O ((TH w w).alloc (ag _) (.cells (iw x f ⟨va,n,vc⟩ s k).toArray 37));unfold ry;go_enter func54,ntmps54;go_upto_region 1 with fail;refine gI (fun wx=>kr wx w 37 x f ⟨va,n,vc⟩ s k/\Below w w wx) ⟨b8,b7⟩ ?_;clear b8 b7;rintro w1 ⟨hg,hb⟩;have hl:=hg.lt;obtain⟨_,_,_,_,_,_,c6,_⟩:=hg.cells;have Hg:=O hg;have c5:=O hb;clear hg hb;go_wp2
 go_loopw [3] (fun iv wr=>∃i:Nat,i<=n/\iv=.int .i64 (i:Int)/\299999<=jR x.ws i/\(List.range i).all (jM x.ws)=true/\Below w1 w1 wr) (fun iv _=>n-(intOf iv).toNat)
 case atStart=>exact⟨0,by omega,rfl,by simp[jR],rfl,TH _ _⟩
 case round=>
  obtain⟨i,hi,rfl,c3,ho,hb⟩:=hrel;have Ho:=O ho;have Hb:=O hb;have X:=O (I c5 hb);clear ho hb c6;obtain⟨_,_,_,_,c4,_,c6,_⟩:=(Hg.go Hb).cells;have hgl:w.heap.size<wr.heap.size:=eb hl Hb.size;by_cases c1:i<n
  .have b3:=Hf.go X
   obtain⟨b1,off,rfl,hlt,x0,x1⟩:=b3.at2 c1;have c7:=O b3;clear b3
   have a1:∀b,jM x.ws i=b->(b=true->(List.range (i+1)).all (jM x.ws)=true)/\(b=false->VY x.p9 x.ws n=false):=by
    intro b hb;refine⟨fun e=>jl Ho (hb.trans e),fun e=>?_⟩;unfold VY;rw[jK c1 (hb.trans e)];rfl
   have a6:jM x.ws i=(decide (jR x.ws i<x.ws.getD (i*2) 0)&&decide (x.ws.getD (i*2) 0<=2500000)&&bt (x.ws.getD (i*2+1) 0) 1 100):=rfl
   have a2:jR x.ws (i+1)=x.ws.getD (i*2) 0:=by unfold jR;rw[aj (by omega),cY]
   have H:=O (show jR x.ws i=if i=0 then 299999 else x.ws.getD ((i-1)*2) 0 from rfl);generalize jR x.ws i=pr at*;generalize hp0:x.ws.getD (i*2) 0=p0 at*;generalize hp1:x.ws.getD (i*2+1) 0=p1 at*;have u:=O a1;have P:=O a6;have a0:=O a2;have c8:=O c3;have C6:=O c6;clear a1 a6 a2 hp0 hp1 c3 c4;have a8:=O (TL wr (.cells #[p0,p1] 79));go_upto_region 5 with fail;refine gI (fun wx=>wx.heap[wr.heap.size]? =some (.cells #[p0,p1] 79 (0,0))/\Below wr wr wx) ⟨a8,gY (TH _ _)⟩ ?_;clear a8 x0 x1 c6;rintro T ⟨a4,b0⟩;have A:=TK a4;have b4:w.heap.size<T.heap.size:=eb hgl b0.size;have W:=(VV a4 0).trans rfl;have y1:=(VV a4 1).trans rfl;have a8:=O a4;have B:=O b0;clear a4 b0;cases hq0:bt p0 300000 2500000
   .have Q0:=O hq0
    have r:jM x.ws i=false:=by
     rw[P];have:=c8.out;simp only[bt,cL,dQ]at hq0⊢;omega
    have N:=O r;clear hq0 r;refine ic 26 [] [] [(0,true),(1,true),(2,false),(3,true),(4,true),(5,true),(6,true),(7,true),(8,true),(9,true),(10,true),(11,true),(12,true),(13,true),(14,true),(15,true),(16,true),(17,true),(18,true),(19,true),(20,true),(21,true),(22,true),(23,true),(24,true),(25,true)] (by kernel_rfl) (by kernel_rfl) ⟨by simp,by simp,fun _ h=>by cases h⟩ (fun _ _ _ _ _ h=>h) (fun _ _ o _ _ h=>by cases o<;>exact h) ?_
    iterate 2
     refine gZ (v:=?_) ?_ ?_;rotate_left
     .intro y F
      have z0:=(F.cell (p:=J (wr.heap.size)) A).trans W;go_simp;rfl
     try simp only[V]
    refine iK (fun x1 E K z=>?_);go_simp;refine(ix p0 _ _ _).mono ?_;rintro e S ⟨m,q⟩;rw[Q0]at m;subst m;refine z _ _ q ?_;clear z K;have j:Below T T x1:=gJ (k:=1) E;have L:=O (I j q);clear q E j
    iterate 2
     refine iy (v:=?_) ?_ ?_;rotate_left
     .intro y
      go_simp;rfl
     try simp only[V]
    iterate 4
     refine nh rfl (by rfl) ?_;try simp only[V]
    iterate 2
     refine iy (v:=?_) ?_ ?_;rotate_left
     .intro y
      go_simp;rfl
     try simp only[V]
    iterate 14
     refine nh rfl (by rfl) ?_;try simp only[V]
    iterate 1
     refine iy (v:=?_) ?_ ?_;rotate_left
     .intro y
      go_simp;rfl
     try simp only[V]
    refine jV (l:=[]) rfl (fun w5 D=>?_);have Q:=O (I L D);clear D;go_wp2;go_ret;exact⟨by rw[(u false N).2 rfl];rfl,I X (I B Q)⟩
   .have R0:=O (show 300000<=p0/\p0<=2500000 by simpa[bt]using hq0)
    have Q0:=O hq0;clear hq0;cases hq1:bt p1 1 100
    .have Q1:=O hq1
     have r:jM x.ws i=false:=by rw[P,hq1];simp
     have N:=O r;clear hq1 r;refine ic 26 [] [] [(0,true),(1,true),(2,false),(3,true),(4,true),(5,true),(6,true),(7,false),(8,true),(9,true),(10,true),(11,true),(12,true),(13,true),(14,true),(15,true),(16,true),(17,true),(18,true),(19,true),(20,true),(21,true),(22,true),(23,true),(24,true),(25,true)] (by kernel_rfl) (by kernel_rfl) ⟨by simp,by simp,fun _ h=>by cases h⟩ (fun _ _ _ _ _ h=>h) (fun _ _ o _ _ h=>by cases o<;>exact h) ?_
     iterate 2
      refine gZ (v:=?_) ?_ ?_;rotate_left
      .intro y F
       have z0:=(F.cell (p:=J (wr.heap.size)) A).trans W;go_simp;rfl
      try simp only[V]
     refine iK (fun x1 E K z=>?_);go_simp;refine(ix p0 _ _ _).mono ?_;rintro e S ⟨m,q⟩;rw[Q0]at m;subst m;refine z _ _ q ?_;clear z K;have j:Below T T x1:=gJ (k:=1) E;have d:=I j q;have k0:=(d.cell (p:=J (wr.heap.size)) A).trans W;have k1:=(d.cell (p:=⟨wr.heap.size,1,none⟩) A).trans y1;have g:wr.heap.size<S.heap.size:=eb A d.size;have L:=O d;clear q E j d W y1
     iterate 2
      refine iy (v:=?_) ?_ ?_;rotate_left
      .intro y
       go_simp;rfl
      try simp only[V]
     iterate 2
      refine gZ (v:=?_) ?_ ?_;rotate_left
      .intro y F
       have z1:=(F.cell (p:=⟨wr.heap.size,1,none⟩) g).trans k1;go_simp;rfl
      try simp only[V]
     refine kH rfl (by rfl) (fun x2 R K z=>?_);go_simp;refine(ix p1 _ _ _).mono ?_;rintro e w4 ⟨m,C⟩;rw[Q1]at m;subst m;refine z _ _ C ?_;clear z K;have t:Below S S x2:=R;have d:=I t C;have m0:=(d.cell (p:=J (wr.heap.size)) g).trans k0;have a3:wr.heap.size<w4.heap.size:=eb g d.size;have M:=O (I L d);clear C R t d k0 k1
     iterate 3
      refine iy (v:=?_) ?_ ?_;rotate_left
      .intro y
       go_simp;rfl
      try simp only[V]
     iterate 14
      refine nh rfl (by rfl) ?_;try simp only[V]
     iterate 1
      refine iy (v:=?_) ?_ ?_;rotate_left
      .intro y
       go_simp;rfl
      try simp only[V]
     refine jV (l:=[]) rfl (fun w5 D=>?_);have Q:=O (I M D);clear D;go_wp2;go_ret;exact⟨by rw[(u false N).2 rfl];rfl,I X (I B Q)⟩
    .skip
     have Q1:=O hq1;clear hq1;by_cases c0:i=0
     .subst c0
      have a5:jM x.ws 0=true:=by
       rw[P,H,aq rfl,Q1];have:=R0.out;simp;omega
      have a9:=O a5;clear a5;refine ic 26 [] [] [(0,true),(1,true),(2,false),(3,true),(4,true),(5,true),(6,true),(7,false),(8,true),(9,true),(10,true),(11,true),(12,true),(13,true),(14,true),(15,true),(16,true),(17,true),(18,true),(19,true),(20,true),(21,true),(22,true),(23,true),(24,true),(25,true)] (by kernel_rfl) (by kernel_rfl) ⟨by simp,by simp,fun _ h=>by cases h⟩ (fun _ _ _ _ _ h=>h) (fun _ _ o _ _ h=>by cases o<;>exact h) ?_
      iterate 2
       refine gZ (v:=?_) ?_ ?_;rotate_left
       .intro y F
        have z0:=(F.cell (p:=J (wr.heap.size)) A).trans W;go_simp;rfl
       try simp only[V]
      refine iK (fun x1 E K z=>?_);go_simp;refine(ix p0 _ _ _).mono ?_;rintro e S ⟨m,q⟩;rw[Q0]at m;subst m;refine z _ _ q ?_;clear z K;have j:Below T T x1:=gJ (k:=1) E;have d:=I j q;have k0:=(d.cell (p:=J (wr.heap.size)) A).trans W;have k1:=(d.cell (p:=⟨wr.heap.size,1,none⟩) A).trans y1;have g:wr.heap.size<S.heap.size:=eb A d.size;have L:=O d;clear q E j d W y1
      iterate 2
       refine iy (v:=?_) ?_ ?_;rotate_left
       .intro y
        go_simp;rfl
       try simp only[V]
      iterate 2
       refine gZ (v:=?_) ?_ ?_;rotate_left
       .intro y F
        have z1:=(F.cell (p:=⟨wr.heap.size,1,none⟩) g).trans k1;go_simp;rfl
       try simp only[V]
      refine kH rfl (by rfl) (fun x2 R K z=>?_);go_simp;refine(ix p1 _ _ _).mono ?_;rintro e w4 ⟨m,C⟩;rw[Q1]at m;subst m;refine z _ _ C ?_;clear z K;have t:Below S S x2:=R;have d:=I t C;have m0:=(d.cell (p:=J (wr.heap.size)) g).trans k0;have a3:wr.heap.size<w4.heap.size:=eb g d.size;have M:=O (I L d);clear C R t d k0 k1
      iterate 6
       refine iy (v:=?_) ?_ ?_;rotate_left
       .intro y
        go_simp;rfl
       try simp only[V]
      iterate 10
       refine nh rfl (by rfl) ?_;try simp only[V]
      iterate 2
       refine iy (v:=?_) ?_ ?_;rotate_left
       .intro y
        go_simp;rfl
       try simp only[V]
      refine jV (l:=[]) rfl (fun w5 D=>?_);have Q:=O (I M D);clear D;go_wp2
      go_roundw
      case rel=>exact⟨1,by omega,by go_num,by rw[a0];have:=R0.out;omega,(u true a9).1 rfl,I Hb (I B Q)⟩
      case measure=>simp[intOf];omega
     .have d2:0<i:=by omega
      have a7:IntKind.i64.wrap ((i:Int)-1)=((i-1:Nat):Int):=by rw[TM _ (by omega)];omega
      have c9:i-1<n:=by omega
      rw[aj c0]at H;have c2:=H.out;obtain⟨b2,o2,e2,d1,z0,-⟩:=(c7).at2 (k:=i-1) c9;cases e2;rw[<- c2]at z0;have Z0:=O z0;clear c2 z0 H;by_cases d0:pr<p0
      all_goals
       have b9:=O d0;refine ic 26 [] [] [(0,true),(1,true),(2,false),(3,true),(4,true),(5,true),(6,true),(7,false),(8,true),(9,true),(10,true),(11,true),(12,true),(13,true),(14,true),(15,true),(16,true),(17,true),(18,true),(19,true),(20,true),(21,true),(22,true),(23,true),(24,true),(25,true)] (by kernel_rfl) (by kernel_rfl) ⟨by simp,by simp,fun _ h=>by cases h⟩ (fun _ _ _ _ _ h=>h) (fun _ _ o _ _ h=>by cases o<;>exact h) ?_
       iterate 2
        refine gZ (v:=?_) ?_ ?_;rotate_left
        .intro y F
         have z0:=(F.cell (p:=J (wr.heap.size)) A).trans W;go_simp;rfl
        try simp only[V]
       refine iK (fun x1 E K z=>?_);go_simp;refine(ix p0 _ _ _).mono ?_;rintro e S ⟨m,q⟩;rw[Q0]at m;subst m;refine z _ _ q ?_;clear z K;have j:Below T T x1:=gJ (k:=1) E;have d:=I j q;have k0:=(d.cell (p:=J (wr.heap.size)) A).trans W;have k1:=(d.cell (p:=⟨wr.heap.size,1,none⟩) A).trans y1;have g:wr.heap.size<S.heap.size:=eb A d.size;have L:=O d;clear q E j d W y1
       iterate 2
        refine iy (v:=?_) ?_ ?_;rotate_left
        .intro y
         go_simp;rfl
        try simp only[V]
       iterate 2
        refine gZ (v:=?_) ?_ ?_;rotate_left
        .intro y F
         have z1:=(F.cell (p:=⟨wr.heap.size,1,none⟩) g).trans k1;go_simp;rfl
        try simp only[V]
       refine kH rfl (by rfl) (fun x2 R K z=>?_);go_simp;refine(ix p1 _ _ _).mono ?_;rintro e w4 ⟨m,C⟩;rw[Q1]at m;subst m;refine z _ _ C ?_;clear z K;have t:Below S S x2:=R;have d:=I t C;have m0:=(d.cell (p:=J (wr.heap.size)) g).trans k0;have a3:wr.heap.size<w4.heap.size:=eb g d.size;have M:=O (I L d);clear C R t d k0 k1;have j6:=((I B M).cell (p:=⟨w.heap.size,6,none⟩) hgl).trans C6;have j0:=((I B M).cell (p:=⟨b1,off+(i-1)*2,none⟩) hlt).trans Z0;have b5:w.heap.size<w4.heap.size:=eb b4 M.size;have b6:b1<w4.heap.size:=eb hlt (I B M).size
       iterate 6
        refine iy (v:=?_) ?_ ?_;rotate_left
        .intro y
         go_simp;rfl
        try simp only[V]
       iterate 9
        refine gZ (v:=?_) ?_ ?_;rotate_left
        .intro y F
         have q6:=(F.cell (p:=⟨w.heap.size,6,none⟩) b5).trans j6;have q0:=(F.cell (p:=⟨b1,off+(i-1)*2,none⟩) b6).trans j0;have qm:=(F.cell (p:=J (wr.heap.size)) a3).trans m0;go_simp;rfl
        try simp only[V]
       iterate 3
        refine iy (v:=?_) ?_ ?_;rotate_left
        .intro y
         go_simp;rfl
        try simp only[V]
       refine jV (l:=[]) rfl (fun w5 D=>?_);have Q:=O (I M D);clear D
      .have a5:jM x.ws i=true:=by
        rw[P,Q1];have:=R0.out;have:=b9.out;simp;omega
       have a9:=O a5;clear a5;go_wp2
       go_roundw
       case rel=>exact⟨i+1,by omega,by go_num,by rw[a0];have:=R0.out;omega,(u true a9).1 rfl,I Hb (I B Q)⟩
       case measure=>simp[intOf];omega
      .have r:jM x.ws i=false:=by
        rw[P];have:=b9.out;simp;omega
       have N:=O r;clear r;go_wp2;go_ret;exact⟨by rw[(u false N).2 rfl];rfl,I X (I B Q)⟩
  .obtain rfl:i=n:=by omega
   have a7:IntKind.i64.wrap ((i:Int)-1)=(i:Int)-1:=TM _ (by omega);cases h1:bt (i:Int) 1 5
   all_goals
    have H1:=O h1;clear h1
    go_wp2_with(first
     |((with_reducible refine(ix (i:Int) 1 5 _).mono ?_);rintro e T ⟨m,hb⟩;rw[H1]at m;subst m;replace c4:=(hb.cell (p:=⟨w.heap.size,4,none⟩) hgl).trans c4;replace c6:=(hb.cell (p:=⟨w.heap.size,6,none⟩) hgl).trans c6;have B:=O hb;clear hb)
     |((with_reducible refine(ix x.p9 0 ((i:Int)-1) _).mono ?_);rintro e w4 ⟨m,hb⟩;subst m;have L:=O hb;clear hb))
    go_ret;refine⟨by unfold VY;rw[Ho,H1];rfl,?_⟩
    first
     |exact I X (I B L)
     |exact I X B
