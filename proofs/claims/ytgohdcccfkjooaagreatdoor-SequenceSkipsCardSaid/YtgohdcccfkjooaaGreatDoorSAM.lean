import Derived.Test.YtgohdcccfkjooaaGreatDoorSAK
import Derived.Test.YtgohdcccfkjooaaGreatDoorSAG
import Derived.Test.YtgohdcccfkjooaaGreatDoorSAL
namespace Go.Proofs.YtgohdcccfkjooaaGreatDoor
set_option linter.all false
set_option maxRecDepth 100000
set_option maxHeartbeats 3200000
open Go.Proofs.Tryz Go.RowKit
def pe(l:List gM):Bool:=match l[l.length-1]? with
 |some x=>pM x.s (x.zs.length/3)
 |none=>false
def kU(l:List gM)(i:Int):Int:=match l[i.toNat]? with
 |some x=>x.s.kind
 |none=>0
def iW(stop:Int)(l:List gM):Bool:=bt (l.length:Int) 2 16&&bt stop 0 ((l.length:Int)-2)&& !uM l&&pe l&& (kU l stop !=3)
def A4(x f v s k g T w)(hg:hU w g T x f v s k)(hf:RR jE 22 (fun b=>b<w.heap.size) w s.a s.n s.c x.l)(hn:s.n<=1000000):
 Calls prog 125 #[U g] w (iZ w (.bool (iW x.stop x.l))):=by
 have Hg:=O hg;have Hf:=O hf;have a8:=hf.1;clear hg hf;obtain⟨sa,n,sc⟩:=s;simp only at*;obtain⟨_,_,_,c3,_,_,_,S,_⟩:=Hg.cells;have hl:=Hg.lt
 have a7:iW x.stop x.l=(bt (n:Int) 2 16&&bt x.stop 0 ((n:Int)-2)&& !uM x.l&&pe x.l&& (kU x.l x.stop !=3)):=by unfold iW;rw[a8]
 have E:=O a7;clear a7;have d4:IntKind.i64.wrap ((n:Int)-2)=(n:Int)-2:=TM _ (by omega)
 cases h1:bt (n:Int) 2 16 with
 |false=>
  have H1:=O h1;clear h1;go_enter func125,ntmps125
  go_wp2_with((with_reducible refine(jc (n:Int) 2 16 _).mono ?_);rintro e w2 ⟨i,D⟩;rw[H1]at i;subst i;have Hb:=O D;clear D)
  go_ret;exact⟨by rw[E,H1];rfl,Hb⟩
 |true=>
  have d2:2<=(n:Int)/\(n:Int)<=16:=by simpa[bt]using h1
  have H1:=O h1;clear h1
  cases h2:bt x.stop 0 ((n:Int)-2)with
  |false=>
   have H2:=O h2;clear h2;go_enter func125,ntmps125
   go_wp2_with(first
    |((with_reducible refine(jc (n:Int) 2 16 _).mono ?_);rintro e w2 ⟨i,D⟩;rw[H1]at i;subst i;have Hb:=O D;clear c3 S;have c3:=(D.cell (p:=⟨g,3,none⟩) hl).trans (Hg.cells).2.2.2.1;clear D)
    |((with_reducible refine(jc x.stop 0 ((n:Int)-2) _).mono ?_);rintro e L ⟨i,D⟩;rw[H2]at i;subst i;have M:=O D;clear D))
   go_ret;exact⟨by rw[E,H1,H2];rfl,I Hb M⟩
  |true=>
   have b5:0<=x.stop/\x.stop<=(n:Int)-2:=by simpa[bt]using h2
   have H2:=O h2;clear h2;obtain⟨m,hm⟩:∃m,n=m+1:=⟨n-1,by omega⟩;obtain⟨j,hj⟩:∃j:Nat,x.stop=(j:Int):=⟨x.stop.toNat,by omega⟩
   have c0:m<n:=by omega
   have b9:j<n:=by omega
   have d3:IntKind.i64.wrap ((n:Int)-1)=(m:Int):=(TM _ (by omega)).trans (by omega);have Hm:=O hm;have Hj:=O hj;have c6:=O b5;clear hm hj b5;go_enter func125,ntmps125
   go_upto_region 5 with(first
    |((with_reducible refine(jc (n:Int) 2 16 _).mono ?_);rintro e w2 ⟨i,D⟩;rw[H1]at i;subst i;have Hb:=O D;clear c3 S;have c3:=(D.cell (p:=⟨g,3,none⟩) hl).trans (Hg.cells).2.2.2.1;clear D)
    |((with_reducible refine(jc x.stop 0 ((n:Int)-2) _).mono ?_);rintro e L ⟨i,D⟩;rw[H2]at i;subst i;have M:=O (I Hb D);clear D))
   have hgl:g<L.heap.size:=ab hl M.size;obtain⟨_,_,_,c3,_,_,_,S,_⟩:=(Hg.go M).cells;rw[Hj]at c3;have a4:=O (Hf.go iD M);obtain⟨b1,off,y,cs,rfl,hlt,u,⟨a2,n2,c2,rfl,hz,c4,b7,b8⟩,hr⟩:=a4.at c0;obtain⟨c8,c5,z,d1,e',_,b6,⟨a3,n3,c9,rfl,c1,_,_,_⟩,b4⟩:=a4.at b9;cases e'
   have a0:pe x.l=pM y.s n2:=by unfold pe;rw[a8,show n-1=m by(have:=Hm.out;omega),u];simp only;rw[<- mU hz]
   have X:kU x.l x.stop=z.s.kind:=by unfold kU;rw[Hj,aI,b6]
   have W:=O a0;have b0:=O X;have Hr:=O hr
   have d0:L.cell? ⟨b1,off+j*22,none⟩=some (.int .i64 z.s.kind):=by have:=b4 0 _ rfl;rwa[bE]at this
   clear a0 X hr b4 hz c1 u b6 b7 b8
   cases hbad:uM x.l with
   |true=>
    have A:=O hbad;clear hbad;refine ic 37 [] [] [(0,true),(1,true),(2,true),(3,true),(4,true),(5,true),(6,false),(7,true),(8,true),(9,true),(10,true),(11,true),(12,true),(13,true),(14,true),(15,true),(16,true),(17,true),(18,true),(19,true),(20,true),(21,true),(22,true),(23,true),(24,true),(25,true),(26,true),(27,true),(28,true),(29,true),(30,true),(31,true),(32,true),(33,true),(34,true),(35,true),(36,true)] (by kernel_rfl) (by kernel_rfl) ⟨by simp,by simp,fun _ h=>by cases h⟩ (fun _ _ _ _ _ h=>h) (fun _ _ o _ _ h=>by cases o<;>exact h) ?_
    iterate 6
     refine gZ (v:=?_) ?_ ?_;rotate_left
     .intro y u
      have z7:=(u.cell (p:=⟨g,7,none⟩) hgl).trans S;go_simp;rfl
     try simp only[V]
    refine iK (fun x1 P K H=>?_);go_simp;have q:Below L L x1:=gJ (k:=1) P;refine(su x.l _ n sc _ (a4.go iD q) hn).mono ?_;rintro e Q ⟨i,C⟩;rw[A]at i;subst i;refine H _ _ C ?_;clear H K;have d:=I q C
    iterate 2
     refine iy (v:=?_) ?_ ?_;rotate_left
     .intro y
      go_simp;rfl
     try simp only[V]
    iterate 10
     refine nh rfl (by rfl) ?_;try simp only[V]
    iterate 2
     refine iy (v:=?_) ?_ ?_;rotate_left
     .intro y
      go_simp;rfl
     try simp only[V]
    iterate 14
     refine nh rfl (by rfl) ?_;try simp only[V]
    iterate 2
     refine iy (v:=?_) ?_ ?_;rotate_left
     .intro y
      go_simp;rfl
     try simp only[V]
    refine jV (l:=[]) rfl (fun w5 N=>?_);have F:=O (I M (I d N));clear d N C q P;go_wp2;go_ret;exact⟨by rw[E,A,H1,H2];rfl,F⟩
   |false=>
    have A:=O hbad;clear hbad;cases him:pM y.s n2
    .have a5:=O him;clear him
     refine ic 37 [] [] [(0,true),(1,true),(2,true),(3,true),(4,true),(5,true),(6,false),(7,true),(8,true),(9,true),(10,true),(11,true),(12,true),(13,true),(14,true),(15,true),(16,true),(17,true),(18,false),(19,true),(20,true),(21,true),(22,true),(23,true),(24,true),(25,true),(26,true),(27,true),(28,true),(29,true),(30,true),(31,true),(32,true),(33,true),(34,true),(35,true),(36,true)] (by kernel_rfl) (by kernel_rfl) ⟨by simp,by simp,fun _ h=>by cases h⟩ (fun _ _ _ _ _ h=>h) (fun _ _ o _ _ h=>by cases o<;>exact h) ?_
     iterate 6
      refine gZ (v:=?_) ?_ ?_;rotate_left
      .intro y u
       have z7:=(u.cell (p:=⟨g,7,none⟩) hgl).trans S;go_simp;rfl
      try simp only[V]
     refine iK (fun x1 P K H=>?_);go_simp;have q:Below L L x1:=gJ (k:=1) P;refine(su x.l _ n sc _ (a4.go iD q) hn).mono ?_;rintro e Q ⟨i,C⟩;rw[A]at i;subst i;refine H _ _ C ?_;clear H K;have d:Below L L Q:=I q C;have r:g<Q.heap.size:=ab hgl d.size;have k7:=(d.cell (p:=⟨g,7,none⟩) hgl).trans S;have k3:=(d.cell (p:=⟨g,3,none⟩) hgl).trans c3;have B:b1<Q.heap.size:=ab hlt d.size;have kr:=jb Hr (gE d) hlt;have e0:=(d.cell (p:=⟨b1,off+j*22,none⟩) hlt).trans d0;have Kr:=O kr;have b2:=O d;clear kr C q P d c3 S d0
     iterate 2
      refine iy (v:=?_) ?_ ?_;rotate_left
      .intro y
       go_simp;rfl
      try simp only[V]
     iterate 8
      refine gZ (v:=?_) ?_ ?_;rotate_left
      .intro y u
       have z7:=(u.cell (p:=⟨g,7,none⟩) r).trans k7;go_simp;rfl
      try simp only[V]
     refine pE rfl rfl (by rfl) (fun y u=>jb Kr (gE u) B) _ rfl rfl ?_;(try simp only[V]);refine kH rfl (by rfl) (fun x2 a6 K H=>?_);go_simp;refine(BU y.s a2 n2 c2 _).mono ?_;rintro e w6 ⟨i,R⟩;rw[a5]at i;subst i;refine H _ _ R ?_;clear H K;have t:Below Q Q w6:=I a6 R;have a1:g<w6.heap.size:=ab r t.size;have a9:b1<w6.heap.size:=ab B t.size;have l7:=(t.cell (p:=⟨g,7,none⟩) r).trans k7;have l3:=(t.cell (p:=⟨g,3,none⟩) r).trans k3;have f0:=(t.cell (p:=⟨b1,off+j*22,none⟩) B).trans e0;have b3:=O t;clear R a6 t k3 k7 e0
     iterate 2
      refine iy (v:=?_) ?_ ?_;rotate_left
      .intro y
       go_simp;rfl
      try simp only[V]
     iterate 14
      refine nh rfl (by rfl) ?_;try simp only[V]
     iterate 2
      refine iy (v:=?_) ?_ ?_;rotate_left
      .intro y
       go_simp;rfl
      try simp only[V]
     refine jV (l:=[]) rfl (fun w5 N=>?_);have F:=O (I M (I b2 (I b3 N)));clear N;go_wp2;go_ret;exact⟨by rw[E,A,H1,H2,W,a5];rfl,F⟩
    .have a5:=O him;clear him
     refine ic 37 [] [] [(0,true),(1,true),(2,true),(3,true),(4,true),(5,true),(6,false),(7,true),(8,true),(9,true),(10,true),(11,true),(12,true),(13,true),(14,true),(15,true),(16,true),(17,true),(18,false),(19,true),(20,true),(21,true),(22,true),(23,true),(24,true),(25,true),(26,true),(27,true),(28,true),(29,true),(30,true),(31,true),(32,true),(33,true),(34,true),(35,true),(36,true)] (by kernel_rfl) (by kernel_rfl) ⟨by simp,by simp,fun _ h=>by cases h⟩ (fun _ _ _ _ _ h=>h) (fun _ _ o _ _ h=>by cases o<;>exact h) ?_
     iterate 6
      refine gZ (v:=?_) ?_ ?_;rotate_left
      .intro y u
       have z7:=(u.cell (p:=⟨g,7,none⟩) hgl).trans S;go_simp;rfl
      try simp only[V]
     refine iK (fun x1 P K H=>?_);go_simp;have q:Below L L x1:=gJ (k:=1) P;refine(su x.l _ n sc _ (a4.go iD q) hn).mono ?_;rintro e Q ⟨i,C⟩;rw[A]at i;subst i;refine H _ _ C ?_;clear H K;have d:Below L L Q:=I q C;have r:g<Q.heap.size:=ab hgl d.size;have k7:=(d.cell (p:=⟨g,7,none⟩) hgl).trans S;have k3:=(d.cell (p:=⟨g,3,none⟩) hgl).trans c3;have B:b1<Q.heap.size:=ab hlt d.size;have kr:=jb Hr (gE d) hlt;have e0:=(d.cell (p:=⟨b1,off+j*22,none⟩) hlt).trans d0;have Kr:=O kr;have b2:=O d;clear kr C q P d c3 S d0
     iterate 2
      refine iy (v:=?_) ?_ ?_;rotate_left
      .intro y
       go_simp;rfl
      try simp only[V]
     iterate 8
      refine gZ (v:=?_) ?_ ?_;rotate_left
      .intro y u
       have z7:=(u.cell (p:=⟨g,7,none⟩) r).trans k7;go_simp;rfl
      try simp only[V]
     refine pE rfl rfl (by rfl) (fun y u=>jb Kr (gE u) B) _ rfl rfl ?_;(try simp only[V]);refine kH rfl (by rfl) (fun x2 a6 K H=>?_);go_simp;refine(BU y.s a2 n2 c2 _).mono ?_;rintro e w6 ⟨i,R⟩;rw[a5]at i;subst i;refine H _ _ R ?_;clear H K;have t:Below Q Q w6:=I a6 R;have a1:g<w6.heap.size:=ab r t.size;have a9:b1<w6.heap.size:=ab B t.size;have l7:=(t.cell (p:=⟨g,7,none⟩) r).trans k7;have l3:=(t.cell (p:=⟨g,3,none⟩) r).trans k3;have f0:=(t.cell (p:=⟨b1,off+j*22,none⟩) B).trans e0;have b3:=O t;clear R a6 t k3 k7 e0
     iterate 2
      refine iy (v:=?_) ?_ ?_;rotate_left
      .intro y
       go_simp;rfl
      try simp only[V]
     iterate 14
      refine gZ (v:=?_) ?_ ?_;rotate_left
      .intro y u
       have z7:=(u.cell (p:=⟨g,7,none⟩) a1).trans l7;have z3:=(u.cell (p:=⟨g,3,none⟩) a1).trans l3;have z0:=(u.cell (p:=⟨b1,off+j*22,none⟩) a9).trans f0;go_simp;rfl
      try simp only[V]
     iterate 2
      refine iy (v:=?_) ?_ ?_;rotate_left
      .intro y
       go_simp;rfl
      try simp only[V]
     refine jV (l:=[]) rfl (fun w5 N=>?_);have F:=O (I M (I b2 (I b3 N)));clear N;go_wp2;go_ret;exact⟨by rw[E,A,H1,H2,W,a5,b0];rfl,F⟩
def oC(w:World)(b:Nat)(ks:List ByteArray):Prop:=
 ∃c a,w.heap[b]? =some (.map c a)/\c.toList.map (fun e=>(e.key,e.val))=ks.map (fun s=>(Value.string s,Value.bool true))
def rx(s:ByteArray)(ks:List ByteArray):Bool:=ks.any fun k=>s==k
def tN(s):∀(l:List MapEntry)(ks:List ByteArray)(i:Nat),l.map (fun e=>(e.key,e.val))=ks.map (fun s=>(Value.string s,Value.bool true))->
 (rx s ks=true/\ ∃j,Instr.findNow .string (.string s) l i=some (some (j,.bool true)))\/(rx s ks=false/\Instr.findNow .string (.string s) l i=some none)
 |[],[],i,_=>VS ⟨by simp[rx],rfl⟩
 |[],k::ks,i,h=>by cases h
 |e::l,[],i,h=>by cases h
 |e::l,k::ks,i,h=>by
  simp only[aN,ei,dK]at h;obtain⟨⟨h1,h2⟩,h3⟩:=h;unfold Instr.findNow;rw[h1,h2];simp only[Instr.sameNow];cases e:(s==k)
  .obtain ⟨a,b⟩|⟨a,b⟩:=tN s l ks (i+1) h3
   .exact VR ⟨by unfold rx at*;rw[eN,e,a];rfl,b⟩
   .exact VS ⟨by unfold rx at*;rw[eN,e,a];rfl,b⟩
  .exact VR ⟨by unfold rx;rw[eN,e];rfl,i,rfl⟩
def tO{P t kt e}(l:P.underlying t=some (.map kt e))(a:P.underlying kt=some .string){w}(n:(zeroValue e).run P w=.ok (.bool false) w){b ks}(h:oC w b ks)(s):
 (Instr.lookup t (.map (some b)) (.string s) false).run P w=.ok (.bool (rx s ks)) w:=by
 obtain⟨m,f,g,k⟩:=h
 have i:∀b,(Instr.checkKey b 10000 kt (.string s)).run P w=.ok () w:=fun b=>by
  rw[show(10000:Nat)=9999+1 from rfl,Instr.checkKey,bR,bQ a];rfl
 obtain ⟨c,j,d⟩|⟨c,d⟩:=tN s m.toList ks 0 k
 .simp[Instr.lookup,Instr.findKey,bR,bQ l,bQ a,MapKept.run_getObj_map g,i,d,c]
 .simp[Instr.lookup,Instr.findKey,bR,bQ l,bQ a,MapKept.run_getObj_map g,i,d,c,n]
def zt{P t kt e}(n:P.underlying t=some (.map kt e))(g:P.underlying kt=some .string){w b ks}(h:oC w b ks)(s)(m:rx s ks=false):
 ∃w',(Instr.mapUpdate t (.map (some b)) (.string s) (.bool true)).run P w=.ok () w'/\oC w' b (ks++[s])/\w.grownBy w' (some b):=by
 obtain⟨d,a,f,c⟩:=h
 have l:(Instr.checkKey false 10000 kt (.string s)).run P w=.ok () w:=by
  rw[show(10000:Nat)=9999+1 from rfl,Instr.checkKey,bR,bQ g];rfl
 obtain ⟨i,_⟩|⟨i,o⟩:=tN s d.toList ks 0 c
 .rw[m]at i;cases i
 .refine⟨{w with heap:=w.heap.setIfInBounds b (.map (d.push {key:=.string s,val:=.bool true,born:=a}) (a+1))},?_,?_,?_⟩
  .simp[Instr.mapUpdate,Instr.findKey,bR,bQ n,bQ g,MapKept.run_getObj_map f,l,o,MapKept.run_setObj_map _ f]
  .have hlt:=TK f
   exact⟨d.push {key:=.string s,val:=.bool true,born:=a},a+1,by simp[hlt],by simp[c]⟩
  .refine⟨rfl,rfl,rfl,by simp,fun k g j=>?_⟩
   show(w.heap.setIfInBounds b _)[k]? =_
   rw[fD (fun e=>j (by rw[e]))]
def qV{ops c o a}{Q:Exit->Act->World->Prop}{w t kt e}(p:prog.underlying t=some (.map kt e))(i:prog.underlying kt=some .string)(f:o.guard=none)(m x v)(k:o.op=.mapUpdate t m x v){b ks}(h:oC w b ks)(s)(n:rx s ks=false)(j:a.eval m=.map (some b))(r:a.eval x=.string s)(q:a.eval v=.bool true)(g:∀w',oC w' b (ks++[s])->w.grownBy w' (some b)->wpList prog ops Q c (a.put o.dst undef) w'):wpList prog ops Q (o::c) a w:=by
 obtain⟨w',l,h1,h2⟩:=zt p i h s n
 refine eT f fun K d=>?_
 unfold Oper.wp;simp[execOp,k,j,r,q,l,Result.andThen];exact d _ _ (g w' h1 h2)
def oC.block{w w' b ks}(h:oC w b ks)(d:w'.heap[b]? =w.heap[b]?):oC w' b ks:=by
 obtain⟨c,a,h1,h2⟩:=h;exact⟨c,a,d.trans h1,h2⟩
def QO:pB ByteArray:=fun _ _ s cs=>cs=[.string s]/\s.size<=9223372036854775807
def Ev:kR 1 QO where
 len:=by rintro S w x cs ⟨rfl,_⟩;rfl
 kept:=by rintro S T w w' x cs ⟨e,h⟩ b c;exact⟨e,h⟩
 one:=by rintro S w x cs ⟨rfl,_⟩ v a;simp only[aK]at a;subst a;rfl
def od(ks:List ByteArray)(i:Nat):Bool:=match ks[i]? with
 |some s=>!rx s (ks.take i)&&kI s
 |none=>false
def vV(ks:List ByteArray):Bool:=(List.range ks.length).all (od ks)
def Tryz.zeroBool(w):(zeroValue 4).run prog w=.ok (.bool false) w:=by kernel_rfl
def A5(ks a n c w)(h:RR QO 1 (fun b=>b<w.heap.size) w a n c ks)(hn:n<=1000000):
 Calls prog 168 #[Z a n c] w (iZ w (.bool (vV ks))):=by
 have H:=O h;have d:=h.1;clear h;have T:=@run_makeMap prog;go_enter func168,ntmps168;go_wp2_with fail
 go_loopw [9] (fun v wr=>∃k:Nat,k<=n/\v=.int .i64 (k:Int)/\oC wr w (ks.take k)/\(List.range k).all (od ks)=true/\Below w w wr) (fun v _=>n-(intOf v).toNat)
 case atStart=>exact⟨0,by omega,rfl,⟨#[],0,TL w _,rfl⟩,rfl,gY (TH _ _)⟩
 case round=>
  obtain⟨k,X,rfl,K,M,C⟩:=hrel;have B:=O M;have g:=O C;have z:=O K;obtain⟨W,x,o,_⟩:=K;have L:=TK o;clear M C o;by_cases j:k<n
  .obtain⟨b,off,s,cs,rfl,hlt,u,⟨rfl,P⟩,N⟩:=(H.go Ev g).at j
   have S:=N 0 _ rfl;rw[bE,dn]at S;have F:=tO underlying126 underlying9 (Tryz.zeroBool wr) z s
   have E:od ks k=(!rx s (ks.take k)&&kI s):=by unfold od;rw[u]
   have t:=O E;have Q:=O u;clear N E u;cases h1:rx s (ks.take k)
   .cases h2:kI s
    all_goals
     rw[h1]at F;have i:=O h1;have r:=O h2;clear h1 h2
     go_wp2_with(first
      |((with_reducible refine(ze s _ P).mono ?_);rintro e w2 ⟨D,l⟩;rw[r]at D;subst D;have f:=O l;clear l)
      |(refine qV underlying126 underlying9 rfl (.tmp 21) (.tmp 22) _ rfl (z.block (f.block _ L)) s i rfl rfl rfl ?_;intro w3 p m;have A:=O p;have y:=O ((I g f).grown m (I g f).size (fun q R=>(by cases R;exact aa _)));clear p m))
    .go_ret
     refine⟨?_,I g f⟩;unfold vV;rw[d,jK j (t.trans (by rw[i,r];rfl))];rfl
    .go_roundw
     case rel=>exact⟨k+1,by omega,by go_num,by rw[mn Q];exact A,jl B (t.trans (by rw[i,r];rfl)),y⟩
     case measure=>simp[intOf];omega
   .rw[h1]at F
    have i:=O h1;clear h1;go_wp2;go_ret;refine⟨?_,g⟩;unfold vV;rw[d,jK j (t.trans (by rw[i];rfl))];rfl
  .obtain rfl:k=n:=by omega
   go_wp2;go_ret;refine⟨?_,g⟩;unfold vV;rw[d,B];rfl
def uY(x f v s k w)(hf:RR jE 22 (fun b=>b<w.heap.size) w s.a s.n s.c x.l)(hn:s.n<=1000000):
 Calls prog 111 #[ry x f v s k] w (iZ w (.bool (iW x.stop x.l))):=by
 have Hf:=O hf;have K:=hf.1;clear hf;obtain⟨sa,n,sc⟩:=s;simp only at*;have b8:hU (w.alloc (.cells (iw x f v ⟨sa,n,sc⟩ k).toArray 37)) w 37 x f v ⟨sa,n,sc⟩ k:=TL w _;have b7:=(TH w w).alloc (aa _) (.cells (iw x f v ⟨sa,n,sc⟩ k).toArray 37);have b3:=O b8;have b0:=O b7;clear b8 b7
 have R:iW x.stop x.l=(bt (n:Int) 2 16&&bt x.stop 0 ((n:Int)-2)&& !uM x.l&&pe x.l&& (kU x.l x.stop !=3)):=by unfold iW;rw[K]
 have q:=O R;clear R;have e8:IntKind.i64.wrap ((n:Int)-2)=(n:Int)-2:=TM _ (by omega);unfold ry;go_enter func111,ntmps111;go_upto_region 1 with fail;refine gI (fun wx=>hU wx w 37 x f v ⟨sa,n,sc⟩ k/\Below w w wx) ⟨b3,b0⟩ ?_;clear b3 b0;rintro w1 ⟨hg,d⟩;have M:=hg.lt;obtain⟨_,_,_,c3,_,_,_,Q,_⟩:=hg.cells;have Hg:=O hg;have t:=O d;clear hg d;go_upto_region 2 with fail
 cases h1:bt (n:Int) 2 16 with
 |false=>
  have H:=O h1;clear h1
  go_wp2_with((with_reducible refine(ix (n:Int) 2 16 _).mono ?_);rintro e w2 ⟨g,d⟩;rw[H]at g;subst g;have r:=O d;clear d)
  go_ret;exact⟨by rw[q,H];rfl,I t r⟩
 |true=>
  have e6:2<=(n:Int)/\(n:Int)<=16:=by simpa[bt]using h1
  have H:=O h1;clear h1
  cases h2:bt x.stop 0 ((n:Int)-2)with
  |false=>
   have P:=O h2;clear h2
   go_wp2_with(first
    |((with_reducible refine(ix (n:Int) 2 16 _).mono ?_);rintro e w2 ⟨g,d⟩;rw[H]at g;subst g;replace c3:=(d.cell (p:=⟨w.heap.size,3,none⟩) M).trans c3;have r:=O d;clear d)
    |((with_reducible refine(ix x.stop 0 ((n:Int)-2) _).mono ?_);rintro e w3 ⟨g,d⟩;rw[P]at g;subst g;have A:=O d;clear d))
   go_ret;exact⟨by rw[q,H,P];rfl,I t (I r A)⟩
  |true=>
   have c5:0<=x.stop/\x.stop<=(n:Int)-2:=by simpa[bt]using h2
   have P:=O h2;clear h2;obtain⟨m,hm⟩:∃m,n=m+1:=⟨n-1,by omega⟩;obtain⟨j,hj⟩:∃j:Nat,x.stop=(j:Int):=⟨x.stop.toNat,by omega⟩
   have d5:m<n:=by omega
   have d4:j<n:=by omega
   have e7:IntKind.i64.wrap ((n:Int)-1)=(m:Int):=(TM _ (by omega)).trans (by omega);have Hm:=O hm;have Hj:=O hj;have e0:=O c5;clear hm hj c5;have a1:=O (Hf.go iD t);obtain⟨b1,off,y,cs,rfl,hlt,hy,⟨a2,n2,c2,rfl,hz,S,d1,b9⟩,hr⟩:=a1.at d5;obtain⟨e1,d9,z,e3,e',_,c6,⟨a3,n3,e2,rfl,d7,_,_,_⟩,c0⟩:=a1.at d4;cases e'
   have F:pe x.l=pM y.s n2:=by unfold pe;rw[K,show n-1=m by(have:=Hm.out;omega),hy];simp only;rw[<- mU hz]
   have E:kU x.l x.stop=z.s.kind:=by unfold kU;rw[Hj,aI,c6]
   have D:tr y=false->uM x.l=true:=fun e=>yI hy (by rw[e];rfl)
   have C:=O F;have B:=O E;have Hr:=O hr;have Hz:=O (hz.ir (fun _ h=>h));have b5:=O b9;have W:=O D
   have X:w1.cell? ⟨b1,off+j*22,none⟩=some (.int .i64 z.s.kind):=by have:=c0 0 _ rfl;rwa[bE]at this
   have D0:=O X;have C7:=O Q;clear F E hr c0 hz d7 hy c6 d1 b9 D X Q;cases hk3:(z.s.kind==3)
   case true=>
    have hk:kU x.l x.stop=3:=by rw[B];simpa using hk3
    have Hk:=O hk;clear hk
    go_wp2_with(first
     |((with_reducible refine(ix (n:Int) 2 16 _).mono ?_);rintro e w2 ⟨g,d⟩;rw[H]at g;subst g;replace c3:=(d.cell (p:=⟨w.heap.size,3,none⟩) M).trans c3;have r:=O d;clear d)
     |((with_reducible refine(ix x.stop 0 ((n:Int)-2) _).mono ?_);rintro e w3 ⟨g,d⟩;rw[P]at g;subst g;have o:=I r d;have Q:=(o.cell (p:=⟨w.heap.size,7,none⟩) M).trans C7;have X:=(o.cell (p:=⟨b1,off+j*22,none⟩) hlt).trans D0;have c3:=((Hg.go o).cells).2.2.2.1;rw[Hj]at c3;have A:=O o;clear d o))
    go_ret;exact⟨by rw[q,Hk];simp,I t A⟩
   case false=>
    have hk:(kU x.l x.stop !=3)=true:=by rw[B];simpa using hk3
    have Hk:=O hk;clear hk;cases him:(tr y&&pM y.s n2)
    case false=>
     have N:iW x.stop x.l=false:=by
      rw[q,C];cases L:tr y
      .rw[W L];simp
      .rw[L]at him;simp only[Bool.true_and]at him;rw[him];simp
     have a6:=O N;have a5:=O him;clear N him
     go_wp2_with(first
      |((with_reducible refine(ix (n:Int) 2 16 _).mono ?_);rintro e w2 ⟨g,d⟩;rw[H]at g;subst g;replace c3:=(d.cell (p:=⟨w.heap.size,3,none⟩) M).trans c3;have r:=O d;clear d)
      |((with_reducible refine(ix x.stop 0 ((n:Int)-2) _).mono ?_);rintro e w3 ⟨g,d⟩;rw[P]at g;subst g;have o:=I r d;have Q:=(o.cell (p:=⟨w.heap.size,7,none⟩) M).trans C7;have X:=(o.cell (p:=⟨b1,off+j*22,none⟩) hlt).trans D0;have c3:=((Hg.go o).cells).2.2.2.1;rw[Hj]at c3;have A:=O o;clear d)
      |(refine pW (jb Hr (gE o) hlt) (by rfl) (.tmp 34) rfl rfl ?_)
      |((with_reducible refine(zy y a2 n2 c2 _ (Hz.out.go o) S b5.out).mono ?_);rintro e w4 ⟨g,d⟩;rw[a5]at g;subst g;have a0:=O d;clear d))
     go_ret;exact⟨by rw[a6];rfl,I t (I A a0)⟩
    case true=>
     have T:uM x.l=false->iW x.stop x.l=true:=by
      intro d;rw[am]at him;rw[q,C,him.2,d,Hk,H,P];rfl
     have N:uM x.l=true->iW x.stop x.l=false:=by
      intro d;rw[q,d];simp
     have a6:=O N;have a9:=O T;have a5:=O him;clear N T him
     go_wp2_with(first
      |((with_reducible refine(ix (n:Int) 2 16 _).mono ?_);rintro e w2 ⟨g,d⟩;rw[H]at g;subst g;replace c3:=(d.cell (p:=⟨w.heap.size,3,none⟩) M).trans c3;have r:=O d;clear d)
      |((with_reducible refine(ix x.stop 0 ((n:Int)-2) _).mono ?_);rintro e w3 ⟨g,d⟩;rw[P]at g;subst g;have o:=I r d;have Q:=(o.cell (p:=⟨w.heap.size,7,none⟩) M).trans C7;have X:=(o.cell (p:=⟨b1,off+j*22,none⟩) hlt).trans D0;have c3:=((Hg.go o).cells).2.2.2.1;rw[Hj]at c3;have A:=O o;clear d)
      |(refine pW (jb Hr (gE o) hlt) (by rfl) (.tmp 34) rfl rfl ?_)
      |((with_reducible refine(zy y a2 n2 c2 _ (Hz.out.go o) S b5.out).mono ?_);rintro e w4 ⟨g,d⟩;rw[a5]at g;subst g;have a0:=O (I o d);clear d))
     clear c3 Q X o
     go_loopw [4] (fun iv wr=>∃i:Nat,i<=n/\iv=.int .i64 (i:Int)/\(x.l.take i).any (fun x=>!tr x)=false/\Below w1 w1 wr) (fun iv _=>n-(intOf iv).toNat)
     case atStart=>exact⟨0,by omega,rfl,rfl,a0⟩
     case round=>
      obtain⟨i,hi,rfl,L,d⟩:=hrel;have Ho:=O L;have r:=O d;clear L d;obtain⟨_,_,_,_,_,_,_,Q,_⟩:=(Hg.go r).cells;have hgl:w.heap.size<wr.heap.size:=ab M r.size;by_cases d3:i<n
      .obtain⟨b4,o4,u,e5,e4,d8,hu,⟨a4,n4,c4,rfl,a8,d6,-,d2⟩,c1⟩:=(a1.go iD r).at d3
       cases e4
       have a7:tr u=oA u.s u.zs n4:=by unfold tr;rw[<- mU a8]
       have c9:=O (a8.ir (fun _ h=>h));have c8:=O c1;clear a8 c1;cases L:oA u.s u.zs n4
       all_goals
        have HO:=O L;rw[L]at a7;have b6:=O a7;have Hu:=O hu;clear L a7 hu
        go_wp2_with(first
         |(refine lw c8 rfl (.tmp 47) rfl rfl ?_)
         |((with_reducible refine(lN u.s u.zs a4 n4 c4 _ c9.out d6 d2).mono ?_);rintro e w5 ⟨g,d⟩;rw[HO]at g;subst g;have b2:=O d;clear d))
       .go_ret
        refine⟨?_,I t (I r b2)⟩;rw[a6 (yI Hu (by rw[b6];rfl))];rfl
       .go_roundw
        case rel=>exact⟨i+1,by omega,by go_num,(wV Hu Ho).trans (by rw[b6];rfl),I r b2⟩
        case measure=>simp[intOf];omega
      .obtain rfl:i=n:=by omega
       go_wp2;go_ret;refine⟨?_,I t r⟩;have:=Ho.out;rw[<- K,bf]at this;rw[a9 this];rfl
def lr(l:List gM)(c:jd):Bool:=match tu l c.zs (c.zs.length/3)with
 |none=>false
 |some _=>decide (c.zs.length/3<=12)
def jo(l:List gM)(cf:List jd):Bool:=cf.all (lr l)&&decide (cf.length<=4)&&vV (cf.map jd.nm)
def kA{ops d o a}{Q:Exit->Act->World->Prop}{W α}{R:pB α}{k:Nat}(ok:kR k R){T e:TypeId}{z:Value}{c:Nat}(f:prog.underlying e=some (.slice T))(n:(prog.info? T).map (fun i=>(i.zero,i.size,i.bytes))=some (some z,k,c))(r:z.cells.size=k)(p:0<k)(j:c<=10000)(m:o.guard=none)(s x:Operand)(q:o.op=.call {callee:=.builtin .append,args:=#[s,x],argTypes:=#[e,e]})(base:Nat)(w:World)(v:Value)(l:List α)(y:α)(cs:List Value)(N:Nat)(hN:l.length=N)(hs:a.eval s=v)(hrow:jD R k T base w v l)(hW:W=w.alloc (.cells cs.toArray T))(hx:a.eval x=.slice (J (w.heap.size)) 1 1)(hy:R (fun b=>base<=b/\b<w.heap.size/\v.ownBlock≠some b) w y cs)(hlen:l.length<=1000000)(hbase:base<=w.heap.size)(h:∀g cap w',jD R k T base w' (.slice (J g) (N+1) cap) (l++[y])->(∀B w0,B<=base->Below B w0 w->Below B w0 w')->gN (fun b=>b<w.heap.size/\v.ownBlock≠some b) w w'->w.heap.size<=w'.heap.size->wpList prog ops Q d (a.put o.dst (.slice (J g) (N+1) cap)) w'):
 wpList prog ops Q (o::d) a W:=by
 subst hN;exact Uq ok f n r p j m s x q base w v l y cs hs hrow hW hx hy hlen hbase h
def Tryz.infoString1:(prog.info? 9).map (fun i=>(i.zero,i.size,i.bytes))=some (some (.string ik),1,16):=by kernel_rfl
def BV{α:Type}{f:α->Bool}{l:List α}{k x}(h:l[k]? =some x)(h0:(l.take k).all f=true):(l.take (k+1)).all f=f x:=by
 rw[mn h,er,h0];simp
def Ew{α:Type}{f:α->Bool}{l:List α}{k:Nat}{x}(h:l[k]? =some x)(h0:f x=false):l.all f=false:=by
 rw[dw];intro a;have:=an.1 a x (aL h);rw[h0]at this;cases this
def C3(x f v s k g T w)(hg:hU w g T x f v s k)(hf:RR jE 22 (fun b=>b<w.heap.size) w s.a s.n s.c x.l)(hn:s.n<=1000000)(hc:RR oB 2 (fun b=>b<w.heap.size) w k.a k.n k.c x.cf)(hk:k.n<=1000000)(hp:jY w w):
 Calls prog 126 #[U g] w (iZ w (.bool (jo x.l x.cf))):=by
 have Hg:=O hg;have Hf:=O hf;have Hc:=O hc;have Hp:=O hp;have j:=hc.1;clear hg hf hc hp;obtain⟨sa,n,sc⟩:=s;obtain⟨ka,m,kc⟩:=k;simp only at*;obtain⟨_,_,_,_,_,_,_,_,c8⟩:=Hg.cells;have hl:=Hg.lt;go_enter func126,ntmps126;go_wp2_with fail
 go_loopw [3,14] (fun nv iv wr=>∃i:Nat,i<=m/\iv=.int .i64 (i:Int)/\jD QO 1 9 w wr nv ((x.cf.take i).map jd.nm)/\(x.cf.take i).all (lr x.l)=true/\Below w w wr) (fun _ iv _=>m-(intOf iv).toNat)
 case atStart=>exact⟨0,by omega,rfl,jD.nil _ _ _ _ _,rfl,TH _ _⟩
 case round=>
  clear c8;obtain⟨i,hi,rfl,ho,ha,S⟩:=hrel;have Ho:=O ho;have B:=O S;have Ha:=O ha;clear ho S ha;have hgl:g<wr.heap.size:=ab hl B.size;by_cases c4:i<m
  .obtain⟨b1,off,y,cs,rfl,hlt,hy,⟨a2,E,c2,rfl,hz,c9,c3,a9⟩,hr⟩:=Hc.at c4
   have x0:=(B.cell (p:=⟨b1,off+i*2+0,none⟩) hlt).trans (hr 0 _ rfl);have x1:=(B.cell (p:=⟨b1,off+i*2+1,none⟩) hlt).trans (hr 1 _ rfl);rw[bE]at x0;have b2:=mU hz;have Hy:=O hy;have Hz:=O (hz.ir (fun _ h=>h));have b7:=O b2;have b6:=O a9;clear hr hy hz b2 c3 a9
   have b0:((x.cf.take i).map jd.nm).length=i:=by rw[aU,bn,j];omega
   have a5:=O b0;clear b0;have C:Below wr wr (wr.alloc (.cells #[y.nm,Z a2 E c2] 75)):=gY (TH _ _);have r:=O C;clear C;have t:=TL wr (.cells #[y.nm,Z a2 E c2] 75);have L:=O t;clear t;go_upto_region 5 with fail;refine gI (fun wx=>wx.heap[wr.heap.size]? =some (.cells #[y.nm,Z a2 E c2] 75 (0,0))/\Below wr wr wx) ⟨L,r⟩ ?_;clear L r;rintro w2 ⟨t,C⟩;have d0:w2.cell? (J (wr.heap.size))=some (.string y.nm):=(gA t 0).trans rfl;have c5:=TK t;have L:=O t;have r:=O C;clear t C
   go_upto_region 6 with(refine kA Ev underlying52 Tryz.infoString1 rfl (by omega) (by omega) rfl (.tmp 18) (.tmp 21) rfl w w2 u3 ((x.cf.take i).map jd.nm) y.nm [y.nm] i a5 rfl (Ho.go Ev r) rfl rfl ⟨rfl,b6⟩ (by rw[a5];omega) (af B.size r.size) ?_;intro g3 d3 w3 b3 a8 W b4)
   have b8:=O b3;have F:=O (a8 _ _ (aa _) (I B r));have c0:=O (af r.size b4);have a6:=O ((W wr ⟨c5,Ho.fresh (aa _)⟩).trans L);have d4:=O W;clear b3 a8 W b4;have c6:wr.heap.size<w3.heap.size:=TK a6
   have a3:g<w3.heap.size:=by have:=c0.out;omega
   have d1:w3.cell? ⟨wr.heap.size,1,none⟩=some (.slice a2 E c2):=(gA a6 1).trans rfl;obtain⟨_,_,_,_,_,_,_,c7,_⟩:=(Hg.go F).cells;refine ic 13 [] [] [(0,true),(1,true),(2,true),(3,true),(4,true),(5,true),(6,true),(7,false),(8,true),(9,true),(10,true),(11,true),(12,true)] (by kernel_rfl) (by kernel_rfl) ⟨by simp,by simp,fun _ h=>by cases h⟩ (fun _ _ _ _ _ h=>h) (fun _ _ o _ _ h=>by cases o<;>exact h) ?_
   iterate 7
    refine gZ (v:=?_) ?_ ?_;rotate_left
    .intro y hy
     have z7:=(hy.cell (p:=⟨g,7,none⟩) a3).trans c7;have z1:=(hy.cell (p:=⟨wr.heap.size,1,none⟩) c6).trans d1;go_simp;with_reducible rfl
    try simp only[V]
   refine iK (fun x1 X K hK=>?_);go_simp;have d:Below w3 w3 x1:=gJ (k:=1) X;have Q:=O (I F d)
   have D:∀b,lr x.l y=b->(b=true->(x.cf.take (i+1)).all (lr x.l)=true)/\(b=false->jo x.l x.cf=false):=by
    intro b S;refine⟨fun e=>(BV Hy Ha).trans (S.trans e),fun e=>?_⟩;unfold jo;rw[Ew Hy (S.trans e)];rfl
   have M:lr x.l y=(match tu x.l y.zs E with|none=>false|some _=>decide (E<=12)):=by unfold lr;rw[<- b7]
   have u:=O D;have A:=O M;clear D M;refine(Es x.l y.zs sa a2 n sc E c2 _ (Hf.go iD Q) hn (Hz.go Q) c9 (Hp.go Q)).mono ?_;rintro e w4 (⟨h1,rfl,q⟩|⟨l',g',m',c',h1,rfl,d2,q⟩)
   .refine hK _ _ q ?_
    clear hK K;have P:=O (I F (I d q));clear q X d
    iterate 5
     refine iy (v:=?_) ?_ ?_;rotate_left
     .intro y
      go_simp;with_reducible rfl
     try simp only[V]
    refine jV (l:=[]) rfl (fun w5 z=>?_);have H:=O (I P z);clear z;go_wp2;go_ret;refine⟨?_,H⟩;rw[(u false (by rw[A,h1])).2 rfl];rfl
   .refine hK _ _ q ?_
    clear hK K;have a0:=O (I d q);have P:=O (I F (I d q));clear q X d d2;by_cases c1:E<=12
    all_goals
     have a4:=O c1
     iterate 5
      refine iy (v:=?_) ?_ ?_;rotate_left
      .intro y
       go_simp;with_reducible rfl
      try simp only[V]
     refine jV (l:=[]) rfl (fun w5 z=>?_);have a1:=O (I a0 z);have H:=O (I P z);clear z;go_wp2_with fail
    .go_roundw
     case rel=>exact⟨i+1,by omega,by go_num,by rw[mn Hy,aT];exact b8.go Ev a1,(u true (by rw[A,h1];simp[a4.out])).1 rfl,H⟩
     case measure=>simp[intOf];omega
    .go_ret
     refine⟨?_,H⟩;rw[(u false (by rw[A,h1];simp[a4.out])).2 rfl];rfl
  .obtain rfl:i=m:=by omega
   obtain⟨_,_,_,_,_,_,_,_,c8⟩:=(Hg.go B).cells;have N:=Ho.out;have R:=Ha.out;rw[<- j,bf]at N R
   have D:jo x.l x.cf=(decide (i<=4)&&vV (x.cf.map jd.nm)):=by unfold jo;rw[R,j];rfl
   have u:=O D;clear D
   have hv:∃a c,u3=.slice a i c:=by
    obtain ⟨rfl,e⟩|⟨g,cap,rfl,_,_,_,_,_⟩:=N.form
    .have:i=0:=by rw[<- j];have:=ai List.length e;simpa using this
     subst this;exact⟨none,0,rfl⟩
    .exact⟨_,_,by rw[aU,j]⟩
   obtain⟨av,cv,rfl⟩:=hv;have b9:=O (N.rr Ev);clear N R;by_cases h4:i<=4
   all_goals
    go_wp2_with((with_reducible refine(A5 (x.cf.map jd.nm) av i cv _ b9.out hk).mono ?_);rintro e w2 ⟨he,a7⟩;subst he;have b5:=O a7;clear a7)
    go_ret
   .exact⟨by rw[u];simp[h4],I B b5⟩
   .exact⟨by rw[u];simp[h4],B⟩
def zu(l a n c w)(h:RR jE 22 (fun b=>b<w.heap.size) w a n c l)(hn:n<=1000000):
 Calls prog 147 #[Z a n c] w (fun e w'=>∃v,e=.returned v/\oJ w w' v l/\Below w w w'):=by
 have H:=O h;clear h;have K:=H.1;go_enter func147,ntmps147;go_wp2_with fail
 go_loopw [3,4] (fun v iv wr=>∃k:Nat,k<=n/\iv=.int .i64 (k:Int)/\oJ w wr v (l.take k)/\Below w w wr) (fun _ iv _=>n-(intOf iv).toNat)
 case atStart=>exact⟨0,by omega,rfl,oJ.nil _ _,TH _ _⟩
 case round=>
  obtain⟨k,hk,rfl,ho,f⟩:=hrel;have L:=O ho;have t:=O f;clear ho f;by_cases b4:k<n
  .obtain⟨b,off,x,cs,rfl,hlt,hx,⟨a2,j,c2,rfl,hz,b5,a3,a4⟩,hr⟩:=(H.go iD t).at b4
   have Hl:(l.take k).length=k:=by rw[bn,K];omega
   have h1:=Y.new wr x.s a2 j c2;have B:=gY (o:=.cells (⟨x.s,a2,j,c2⟩:jt) 70) (TH wr wr);have Hx:=O hx;have Hz:=O (hz.ir (fun _ h=>h));have b0:=O a3;have Hr:=O hr;have b1:=O a4;have y:=O h1;have d:=O B;have HL:=O Hl;clear hx hz a3 hr a4 h1 B Hl
   go_upto_region 6 with(first
    |(refine lw Hr rfl (.tmp 14) rfl rfl ?_)
    |(refine lC x.s a2 j c2 _ rfl rfl (.tmp 5) (.tmp 15) rfl rfl rfl ?_))
   refine gI (fun D=>Y D wr x.s a2 j c2/\Below wr wr D) ⟨y,d⟩ ?_;clear y d;rintro A ⟨h1,B⟩;have N:=h1.lt;have Q:=h1.cells.2.2.2.2.2.2.2.2.2.2.2.2.2.2.2.2.2.2.2.2.2;have y:=O h1;have d:=O B;clear h1 B
   go_upto_region 7 with(first
    |(refine je underlying68 Tryz.infoFilm3 rfl (by omega) (by omega) rfl (.tmp 16) (.tmp 18) rfl A (.slice (J (A.heap.size)) 0 0) 0 [] rfl (World.ownsRow_made A #[] 0 (aa _) (by simp) rfl) (fun b=>b<A.heap.size) a2 j c2 x.zs rfl (IR.irp ((Hz.go d).below ((TH _ _).alloc (aa _) _) (aa _)) (fun _ h=>h)) b0 (by omega) (by simp) ?_;intro v' R z u;obtain⟨a',c',rfl,a1,hi⟩:=lc z;have hi:=jN.own (S:=fun b=>A.heap.size<=b/\b<R.heap.size) z (fun g h1 h2=>⟨h1,h2⟩);have F:Below A A R:=((TH _ _).alloc (aa _) _).grown u (by simp) (by intro k hk;simp[Value.ownBlock]at hk;omega);clear z u Q;have fz:=Y.free (Y.go y F N) 21;have Q:=(Y.cells (Y.go y F N)).2.2.2.2.2.2.2.2.2.2.2.2.2.2.2.2.2.2.2.2.2;have Hi:=O hi;have b8:=O a1;have m:=O F;clear hi a1 F))
   have a5:jN (fun b=>A.heap.size<=b/\b<R.heap.size) R a' j c' x.zs:=by have k:=Hi.out;rw[aV]at k;exact k
   refine gI (fun D=>Y D wr x.s a' j c'/\Below wr wr D/\jN (fun b=>A.heap.size<=b/\b<D.heap.size) D a' j c' x.zs) ⟨Y.coat (Y.go y m N) a' j c',(I d m).setCell (p:=⟨wr.heap.size,21,none⟩) (aa _) _,a5.kept ((gK wr [_] 21 R).mono ?_) ?_⟩ ?_
   .intro b f;have:=f.1;omega
   .intro b f;simp;exact f
   clear y m a5 Hi Q fz;rintro C ⟨h1,M,hi⟩;have b9:=h1.lt;have hy:rL (fun b=>w.heap.size<=b/\b<C.heap.size/\u3.ownBlock≠some b) C ⟨x,wr.heap.size,C.heap.size⟩ (gX x.s a' j c'):=⟨a',j,c',rfl,hi.kept (gN.refl _ _) (fun b f=>⟨⟨by have:=f.1;have:=t.size;have:=d.size;omega,f.2,L.r.fresh (by have:=f.1;have:=d.size;omega)⟩,⟨by show wr.heap.size<=b;have:=f.1;have:=d.size;omega,f.2⟩⟩),b5,b1⟩;obtain⟨lq,P,i,X,a8⟩:=L
   have a6:lq.length=k:=by rw[<- mD,P];exact HL
   have b2:=O P;have Hq:=O (i.go jX M);have a9:=O X;have E:=O a8;have W:=O a6;clear P i X a8 a6;have y:=O h1;have m:=O M;have Hy:=O hy;clear h1 M hi hy
   go_wp2_with(first
    |(refine gO y rfl (.tmp 5) rfl rfl ?_)
    |(refine kA jX underlying34 Tryz.infoSurf3 rfl (by omega) (by omega) rfl (.tmp 21) (.tmp 23) rfl w C u3 lq ⟨x,wr.heap.size,C.heap.size⟩ (gX x.s a' j c') k W rfl Hq rfl rfl Hy (by rw[W];omega) (af t.size m.size) ?_;intro g3 b7 w8 a7 a0 _ _;have b3:=O a7;have T:=O a0;clear a7 a0))
   go_roundw
   case rel=>
    have b6:=(T _ _ (aa _) (TH w C)).size;have c0:=d.size;have c3:=m.size;have c1:=t.size
    exact⟨k+1,by omega,by go_num,⟨_,by rw[Ek,b2,mn Hx];rfl,b3,a9.snoc (fun q i=>(E q i).2.2),(fun q i=>by
     obtain i|i:=bj.1 i
     .exact⟨(E q i).1,(E q i).2.1,by have:=(E q i).2.2;omega⟩
     .obtain rfl:=aK.1 i;exact⟨by show w.heap.size<=wr.heap.size;omega,by show wr.heap.size<=C.heap.size;omega,by show C.heap.size<=_;exact b6⟩)⟩,T _ _ (aa _) (I t m)⟩
   case measure=>simp[intOf];omega
  .obtain rfl:k=n:=by omega
   go_wp2;go_ret;have:=L.out;rw[<- K,bf]at this;exact⟨_,rfl,this,t⟩
def GI(x f v s k g p T w)(a:hU w g T x f v s k)(d:x.nm.size<=9223372036854775807)(h:w.cell? (J p)=some (.pointer (J g))):
 Calls prog 119 #[U p] w (iZ w (.bool (kI x.nm))):=by
 obtain⟨c0,_⟩:=a.cells;clear a;go_enter func119,ntmps119
 go_wp2_with((with_reducible refine(ze x.nm _ d).mono ?_);rintro e i ⟨c,b⟩;subst c)
 go_ret;exact⟨rfl,b⟩
def pN(i6 p9:Int):Bool:=bt i6 0 1000000000&&bt p9 1 1000000000
def GJ(x f v s k g p T w)(c:hU w g T x f v s k)(o:w.cell? (J p)=some (.pointer (J g)))(l:p<w.heap.size):
 Calls prog 121 #[U p] w (iZ w (.bool (pN x.i6 x.p9))):=by
 obtain⟨_,c1,c2,_⟩:=c.cells;have n:=c.lt;have m:=O c2;have P:=O o;clear c c2;cases h1:bt x.i6 0 1000000000<;>cases h2:bt x.p9 1 1000000000
 all_goals
  have d:=O h1;have h:=O h2;clear h1 h2;go_enter func121,ntmps121
  go_wp2_with(first
   |((with_reducible refine(jc x.i6 _ _ _).mono ?_);rintro e r ⟨b,a⟩;rw[d]at b;subst b;have c2:=(a.cell (p:=⟨g,2,none⟩) n).trans m;have q:=(a.cell (p:=J p) l).trans P;have i:=O a;clear a)
   |((with_reducible refine(jc x.p9 _ _ _).mono ?_);rintro e t ⟨b,a⟩;rw[h]at b;subst b;have j:=O a;clear a))
  go_ret;unfold pN;rw[d,h]
  first
   |exact⟨rfl,I i j⟩
   |exact⟨rfl,i⟩
def jO(x:gR):Nat->Bool
 |0=>kI x.nm
 |1=>pN x.i6 x.p9
 |2=>jx x.i6 x.fs (x.fs.length/2)
 |3=>kz x.prim x.ws (x.ws.length/2)
 |4=>iW x.stop x.l
 |_=>jo x.l x.cf
def iI(x:gR):Bool:=(List.range 6).all (jO x)
def S5(g p:Nat):List Value:=[.func (.func 119) #[] #[U p],.func (.func 121) #[] #[U p],.func (.func 123) #[U g] #[],.func (.func 124) #[U g] #[],.func (.func 125) #[U g] #[],.func (.func 126) #[U g] #[]]
def qW{S:Nat->Prop}{w a n c zs}(h:IRp S w 2 a n c zs):n=zs.length/2:=by rw[h.1];omega
def Po(x f v s k g p q c T T2 w)(X:hU w g T x f v s k)(hx:iP (fun b=>b<w.heap.size) w x f v s k)(hp:w.cell? (J p)=some (.pointer (J g)))(M:p<w.heap.size)(W:jY w w)(N:w.heap[q]? =some (.cells (S5 g p).toArray T2 (0,0)))(hc:6<=c):
 Calls prog 118 #[Z (J q) 6 c] w (iZ w (.bool (iI x))):=by
 have Hg:=O X;have z:=O hx;have Hp:=O hp;have HP:=O W;have Hq:=O N;have a1:=TK N;clear X hx hp W N;go_enter func118,ntmps118;go_wp2_with fail;go_step3;go_wp2_with fail;go_step3;go_wp2_with fail
 go_loopw [3,8] (fun ov P wr=>∃i:Nat,i<=6/\P=.int .i64 (i:Int)/\ov=.bool true/\(List.range i).all (jO x)=true/\Below w w wr) (fun _ P _=>6-(intOf P).toNat)
 case atStart=>exact⟨0,by omega,rfl,rfl,rfl,TH _ _⟩
 case round=>
  obtain⟨i,hi,rfl,rfl,ho,m⟩:=hrel;have A:=O ho;have t:=O m;clear ho m;have C:=O (Hg.go t);have D:=O (z.go t);have P2:=O ((t.cell (p:=J p) M).trans Hp);have S:=O (HP.go t);have H:p<wr.heap.size:=ab M t.size;have y:=(t.block _ a1).trans Hq
  have B:∀j,j<6->jO x j=false->iI x=false:=fun j hj h=>jK hj h
  have r:=O B;clear B
  have K:jx x.i6 x.fs f.n=jO x 2:=by show _=jx x.i6 x.fs (x.fs.length/2);rw[<- qW z.fs]
  have L:kz x.prim x.ws v.n=jO x 3:=by show _=kz x.prim x.ws (x.ws.length/2);rw[<- qW z.ws]
  have Q:=O K;have R:=O L;clear K L
  have a0:i=0\/i=1\/i=2\/i=3\/i=4\/i=5\/i=6:=by omega
  obtain rfl|rfl|rfl|rfl|rfl|rfl|rfl:=a0
  .have F:wr.cell? (J q)=some (.func (.func 119) #[] #[U p]):=(gA y 0).trans rfl
   cases hv:jO x 0
   all_goals
    have u:Hid (kI x.nm=_):=O (hv);have d:=O hv;clear hv
    go_wp2_with((with_reducible refine(GI x f v s k g p T _ C.out z.out.nm P2.out).mono ?_);rintro e E ⟨o,m⟩;rw[u]at o;subst o;have a:=O (I t m);clear m)
   .go_ret
    exact⟨by rw[r 0 (by omega) d];rfl,a⟩
   .go_roundw
    case rel=>exact⟨1,by omega,rfl,rfl,jl A d,a⟩
    case measure=>simp[intOf]
  .have F:wr.cell? ⟨q,1,none⟩=some (.func (.func 121) #[] #[U p]):=(gA y 1).trans rfl
   cases hv:jO x 1
   all_goals
    have u:Hid (pN x.i6 x.p9=_):=O (hv);have d:=O hv;clear hv
    go_wp2_with((with_reducible refine(GJ x f v s k g p T _ C.out P2.out H).mono ?_);rintro e E ⟨o,m⟩;rw[u]at o;subst o;have a:=O (I t m);clear m)
   .go_ret
    exact⟨by rw[r 1 (by omega) d];rfl,a⟩
   .go_roundw
    case rel=>exact⟨2,by omega,rfl,rfl,jl A d,a⟩
    case measure=>simp[intOf]
  .have F:wr.cell? ⟨q,2,none⟩=some (.func (.func 123) #[U g] #[]):=(gA y 2).trans rfl
   cases hv:jO x 2
   all_goals
    have u:Hid (jx x.i6 x.fs f.n=_):=O (Q.trans hv);have d:=O hv;clear hv
    go_wp2_with((with_reducible refine(Et x f v s k g T _ C.out (D.out.fs.ir (fun _ h=>h)) z.out.fn).mono ?_);rintro e E ⟨o,m⟩;rw[u]at o;subst o;have a:=O (I t m);clear m)
   .go_ret
    exact⟨by rw[r 2 (by omega) d];rfl,a⟩
   .go_roundw
    case rel=>exact⟨3,by omega,rfl,rfl,jl A d,a⟩
    case measure=>simp[intOf]
  .have F:wr.cell? ⟨q,3,none⟩=some (.func (.func 124) #[U g] #[]):=(gA y 3).trans rfl
   cases hv:jO x 3
   all_goals
    have u:Hid (kz x.prim x.ws v.n=_):=O (R.trans hv);have d:=O hv;clear hv
    go_wp2_with((with_reducible refine(GH x f v s k g T _ C.out (D.out.ws.ir (fun _ h=>h)) z.out.wn).mono ?_);rintro e E ⟨o,m⟩;rw[u]at o;subst o;have a:=O (I t m);clear m)
   .go_ret
    exact⟨by rw[r 3 (by omega) d];rfl,a⟩
   .go_roundw
    case rel=>exact⟨4,by omega,rfl,rfl,jl A d,a⟩
    case measure=>simp[intOf]
  .have F:wr.cell? ⟨q,4,none⟩=some (.func (.func 125) #[U g] #[]):=(gA y 4).trans rfl
   cases hv:jO x 4
   all_goals
    have u:Hid (iW x.stop x.l=_):=O (hv);have d:=O hv;clear hv
    go_wp2_with((with_reducible refine(A4 x f v s k g T _ C.out D.out.l z.out.sn).mono ?_);rintro e E ⟨o,m⟩;rw[u]at o;subst o;have a:=O (I t m);clear m)
   .go_ret
    exact⟨by rw[r 4 (by omega) d];rfl,a⟩
   .go_roundw
    case rel=>exact⟨5,by omega,rfl,rfl,jl A d,a⟩
    case measure=>simp[intOf]
  .have F:wr.cell? ⟨q,5,none⟩=some (.func (.func 126) #[U g] #[]):=(gA y 5).trans rfl
   cases hv:jO x 5
   all_goals
    have u:Hid (jo x.l x.cf=_):=O (hv);have d:=O hv;clear hv
    go_wp2_with((with_reducible refine(C3 x f v s k g T _ C.out D.out.l z.out.sn D.out.cf z.out.kn S.out).mono ?_);rintro e E ⟨o,m⟩;rw[u]at o;subst o;have a:=O (I t m);clear m)
   .go_ret
    exact⟨by rw[r 5 (by omega) d];rfl,a⟩
   .go_roundw
    case rel=>exact⟨6,by omega,rfl,rfl,jl A d,a⟩
    case measure=>simp[intOf]
  .go_wp2
   go_ret;exact⟨by unfold iI;rw[A];rfl,t⟩
def Km(x f v s k g T w)(l:hU w g T x f v s k)(m:iP (fun b=>b<w.heap.size) w x f v s k)(h:jY w w):
 Calls prog 79 #[U g] w (iZ w (.bool (iI x))):=by
 have q:=O l;have r:=O m;have p:=O h;clear l m h;obtain⟨c,d⟩:=iN w (.cells #[U g] 215) (.cells (S5 g w).toArray 47);have i:=iH (w:=w) (.cells #[U g] 215) (.cells (S5 g w).toArray 47);have n:=O c;have o:=O d;have a:=O i;clear c d i;go_enter func79,ntmps79;go_wp2_with fail;refine(Po x f v s k g w (w+1) 6 T 47 _ (q.go a) (r.go a) ((gA n 0).trans rfl) (by simp<;>omega) (p.go a) o (by omega)).mono ?_;rintro e u ⟨t,j⟩;subst t;go_wp2;go_ret;exact⟨rfl,I a j⟩
def jG(x:gR)(f v s k:iJ):Value:=.agg #[x.nm,x.i6,x.p9,x.stop,x.prim,Z f.a f.n f.c,Z v.a v.n v.c,Z s.a s.n s.c,Z k.a k.n k.c]
def zw(x f v s k w)(j:iP (fun b=>b<w.heap.size) w x f v s k)(d:jY w w):
 Calls prog 40 #[jG x f v s k] w (iZ w (err (iI x) 120)):=by
 have o:=O j;have m:=O d;clear j d;obtain⟨p,c⟩:=iN w (.cells (iw x f v s k).toArray 37) (.cells (iw x f v s k).toArray 171);have g:=iH (w:=w) (.cells (iw x f v s k).toArray 37) (.cells (iw x f v s k).toArray 171);have l:=O c;have a:=O g;clear p c g;unfold jG;go_enter func40,ntmps40;cases hv:iI x
 all_goals
  have n:=O hv;clear hv;go_wp2_with fail;refine(Km x f v s k (w+1) 171 _ l (o.go a) (m.go a)).mono ?_;rintro e q ⟨i,h⟩;rw[n]at i;subst i;go_wp2;go_ret;exact⟨rfl,I a h⟩
def jD.rr2{α R k}(ok:kR k R){T base w}{a:Option Addr}{n c:Nat}{l:List α}(h:jD R k T base w (.slice a n c) l):RR R k (fun b=>base<=b/\b<w.heap.size) w a n c l:=by
 have o:=h.rr ok;refine⟨o.1,o.2.1,fun u=>?_⟩;obtain⟨b,off,e,s,m⟩:=o.2.2 u;obtain⟨css,h1,h2,h3,r⟩:=id h
 obtain ⟨f,h0⟩|⟨g,cap,z,f,y,A,B,C,D,E⟩:=h3.2
 .cases f;cases e
 .cases f;cases e
  refine⟨_,0,rfl,⟨y,s⟩,fun i x q=>?_⟩;have hi:i<l.length:=(TG.1 q).1;have d:css[i]? =some css[i]:=ae (by omega);refine⟨css[i],ok.kept (r i x _ q d) (gN.refl _ _) (fun b h=>⟨h.1,h.2.1⟩),fun j v p=>?_⟩
  have t:j<k:=by
   have:=(TG.1 p).1;rw[h2 css[i] (cW _)]at this;exact this
  have m:=h3.cells rfl (i*k+j) v (by rw[mC css i _ j h2 d t];exact p);rw[Addr.add_mid,<- cN]at m;exact m
def Tryz.infoLens:(prog.info? 37).map (·.size)=some 9:=by kernel_rfl
def ja{ops b e d w}{Q:Exit->Act->World->Prop}{g cs}(x f v s k)(h:w.heap[g]? =some (.cells cs 37 (0,0)))(i:cs.size=9)(j:e.guard=none)(y z)(m:e.op=.store 37 y z)(o:d.eval y=.pointer (J g))(p:d.eval z=.agg #[x.nm,x.i6,x.p9,x.stop,x.prim,Z f.a f.n f.c,Z v.a v.n v.c,Z s.a s.n s.c,Z k.a k.n k.c])(l:∀w',hU w' g 37 x f v s k->w'=w.setCells g 0 (iw x f v s k)->wpList prog ops Q b (d.put e.dst undef) w'):wpList prog ops Q (e::b) d w:=
 wpList_store_mid j 37 y z m g 0 _ o p (tF h i) Tryz.infoLens (by simp[Value.oneCell']) (l _ (tE h i) rfl)
def hU.range{w g T x f v s k}(h:hU w g T x f v s k):w.rangeAt g 0 (iw x f v s k):=xK h
def it{ops b d e w}{Q:Exit->Act->World->Prop}{g T x f v s k}(h:hU w g T x f v s k)(i:d.guard=none)(y)(l:d.op=.load 37 y)(m:e.eval y=.pointer (J g))(j:wpList prog ops Q b (e.put d.dst (.agg #[x.nm,x.i6,x.p9,x.stop,x.prim,Z f.a f.n f.c,Z v.a v.n v.c,Z s.a s.n s.c,Z k.a k.n k.c])) w):wpList prog ops Q (d::b) e w:=
 wpList_load_mid i 37 y l g 0 m (iw x f v s k) _ h.range underlying37 rfl Tryz.infoLens j
def vW{fn p u tmps w g x f v s k e}(h:fn.results=#[.cell p 37,.tmp u])(a:tmps.getD p undef=.pointer (J g))(c:tmps.getD u undef=e)(b:hU w g 37 x f v s k):
 (results fn tmps).run prog w=.ok (.tuple #[jG x f v s k,e]) w:=by
 rw[results_cell_tmp h,a,c];simp only[asAddr,cT,bU];rw[run_loadVar_row w g 37 37 _ (0,0) _ b underlying37 rfl Tryz.infoLens];rfl
def lz:gR:=⟨ik,0,0,0,0,[],[],[],[]⟩
def ij:iJ:=⟨none,0,0⟩
def iF(ws:List (List UInt8)):List UInt8:=nN ws++[10]
def kO:List (List UInt8):=[[99,117,114,118],[99,111,110,105,99],[99,117,114,118,120],[99,111,110,105,99,120],[97,115,112,104,52],[97,115,112,104,54],[97,115,112,104,56],[97,115,112,104,49,48],[116,104,105,99,107],[115,101,109,105],[100,120],[100,121],[97,120],[97,121],[97,122],[112,104,97,115,101,50],[112,104,97,115,101,52]]
def kP:List (List UInt8):=[[115,116,97,110,100,97,114,100],[98,105,99,111,110,105,99],[98,114,101,97,107],[105,100,101,97,108]]
def kV:List (List UInt8):=[[108,101,110,115],[111,98,106,101,99,116],[112,117,112,105,108],[115,116,111,112],[112,114,105,109,97,114,121],[102,105,101,108,100],[119,97,118,101],[115,117,114,102,97,99,101],[99,111,110,102,105,103],[101,110,100]]
def xZ:List UInt8:=[108,101,110,115]
def sO:List UInt8:=[111,98,106,101,99,116]
def vA:List UInt8:=[112,117,112,105,108]
def Aa:List UInt8:=[115,116,111,112]
def qJ:List UInt8:=[112,114,105,109,97,114,121]
def vB:List UInt8:=[102,105,101,108,100]
def Ab:List UInt8:=[119,97,118,101]
def nq:List UInt8:=[115,117,114,102,97,99,101]
def mc:List UInt8:=[99,111,110,102,105,103]
def Fp:List UInt8:=[101,110,100]
def lG:List UInt8:=[102,105,108,109]
def lB:List UInt8:=[104,111,108,101]
def kj:List UInt8:=[111,114,100,101,114]
def lP:List UInt8:=[103,108,97,115,115]
def lj:List UInt8:=[99,104,97,110,103,101]
def lQ:List UInt8:=[105,110,102,105,110,105,116,121]
def oo(p:Nat):Nat:=if p=1\/p=3 then 9 else if 16<=p then 3 else 6
def km(p:Nat):List UInt8:=kO.getD (p-1) []
def kb(b:ByteArray):List UInt8:=b.data.toList
def Ld(s:gW)(p:Nat):List UInt8:=if s.get (p:Int)=0 then[]else iF [km p,iz (s.get (p:Int)) (oo p)]
def ub(s:gW)(a n:Nat):List UInt8:=((List.range n).map fun i=>Ld s (a+i)).flatten
def ms(zs:List Int)(i:Nat):List UInt8:=iF [lG,iz (zs.getD (i*3) 0) 7,iz (zs.getD (i*3+1) 0) 0,iz (zs.getD (i*3+2) 0) 0]
def oq(x:gM):List UInt8:=
 iF [nq,kP.getD (x.s.kind-1).toNat []]++ub x.s 1 10++(if x.s.p8=0 then[]else iF [lB,iz x.s.p8 6])++ub x.s 11 5
  ++(if x.s.order=0 then[]else iF [kj,iz x.s.order 0])++ub x.s 16 2++(if kb x.s.i7=[]then[]else iF [lP,kb x.s.i7])
  ++((List.range (x.zs.length/3)).map (ms x.zs)).flatten
def mK(zs:List Int)(i:Nat):List UInt8:=iF [lj,iz (zs.getD (i*3) 0) 0,km (zs.getD (i*3+1) 0).toNat,iz (zs.getD (i*3+2) 0) (oo (zs.getD (i*3+1) 0).toNat)]
def ot(c:jd):List UInt8:=iF [mc,kb c.nm]++((List.range (c.zs.length/3)).map (mK c.zs)).flatten
def nE(fs:List Int)(i:Nat):List UInt8:=iF [vB,iz (fs.getD (i*2) 0) 6,iz (fs.getD (i*2+1) 0) 6]
def qK(ws:List Int)(i:Nat):List UInt8:=iF [Ab,iz (ws.getD (i*2) 0) 3,iz (ws.getD (i*2+1) 0) 0]
def Fq(x:gR):List UInt8:=iF [xZ,kb x.nm]++iF [sO,if x.i6=0 then lQ else iz x.i6 6]++iF [vA,iz x.p9 6]++iF [Aa,iz x.stop 0]++iF [qJ,iz x.prim 0]
def nO(x:gR):List UInt8:=
 Fq x++((List.range (x.fs.length/2)).map (nE x.fs)).flatten++((List.range (x.ws.length/2)).map (qK x.ws)).flatten++(x.l.map oq).flatten++(x.cf.map ot).flatten++iF [Fp]
def lp(w:List UInt8)(d:Nat):Option Int:=if Fj w d=0 then some (Fi w d)else none
def kF:List (List UInt8)->List Nat->Option (List Int)
 |[],[]=>some []
 |w::ws,d::ds=>match lp w d with
  |none=>none
  |some n=>match kF ws ds with
   |none=>none
   |some a=>some (n::a)
 |_,_=>none
def rD(w:List UInt8):Option Nat:=(kO.findIdx? (· ==w)).map (· +1)
structure jL where
 x:gR
 at_:Int
 seen:List (List UInt8)
def lJ(k:Nat):gM:=⟨⟨(k:Int),0,0,0,0,0,0,0,0,0,0,0,0,⟨#[]⟩,0,0,0,0,0,0,0⟩,[]⟩
def jk(x:gR)(k:Nat)(w:List (List UInt8)):Option gR:=
 match k,w with
 |0,[v]=>some {x with nm:=bs v}
 |1,[v]=>if v=lQ then some x else(lp v 6).map fun n=>{x with i6:=n}
 |2,[v]=>(lp v 6).map fun n=>{x with p9:=n}
 |3,[v]=>(lp v 0).map fun n=>{x with stop:=n}
 |4,[v]=>(lp v 0).map fun n=>{x with prim:=n}
 |5,w=>(kF w [6,6]).map fun a=>{x with fs:=x.fs++a}
 |6,w=>(kF w [3,0]).map fun a=>{x with ws:=x.ws++a}
 |7,[v]=>(kP.findIdx? (· ==v)).map fun i=>{x with l:=x.l++[lJ (i+1)]}
 |8,[v]=>some {x with cf:=x.cf++[⟨bs v,[]⟩]}
 |9,[]=>some x
 |_,_=>none
def Dv(v:List UInt8):Option Nat:=match rD v with
 |some p=>some (oo p)
 |none=>if v=lB then some 6 else if v=kj then some 0 else none
def Ac(s:gW)(v:List UInt8)(n:Int):gW:=match rD v with
 |some p=>s.put (p:Int) n
 |none=>if v=lB then{s with p8:=n} else{s with order:=n}
def Ad(y:gM)(w:List (List UInt8)):Option gM:=
 match w with
 |[]=>none
 |f::ws=>
  if f=lG then(kF ws [7,0,0]).map fun a=>{y with zs:=y.zs++a}
  else match ws with
   |[v]=>if f=lP then some {y with s:={y.s with i7:=bs v}} else
     match Dv f with
     |none=>none
     |some d=>(lp v d).map fun n=>{y with s:=Ac y.s f n}
   |_=>none
def sP(c:jd)(w:List (List UInt8)):Option jd:=
 match w with
 |[_,a,p,v]=>match rD p with
  |none=>none
  |some q=>match lp a 0 with
   |none=>none
   |some i=>(lp v (oo q)).map fun n=>{c with zs:=c.zs++[i,(q:Int),n]}
 |_=>none
def ou{α:Type}(l:List α)(f:α->Option α):Option (List α):=match l.getLast? with
 |none=>none
 |some y=>(f y).map fun z=>l.dropLast++[z]
def kp(r:jL)(w:List (List UInt8)):Option jL:=
 if r.at_=9 then none else
 match w with
 |[]=>some r
 |f::ws=>
  match kV.findIdx? (· ==f)with
  |some k=>
   if(k:Int)=r.at_+1\/(5<=k/\4<=r.at_/\r.at_<=(k:Int))then(jk r.x k ws).map fun y=>⟨y,(k:Int),[]⟩else none
  |none=>
   if r.at_=7 then
    (if f≠lG/\f∈r.seen then none else(ou r.x.l fun y=>Ad y (f::ws)).map fun l=>⟨{r.x with l:=l},7,if f=lG then r.seen else r.seen++[f]⟩)
   else if r.at_=8/\f=lj then(ou r.x.cf fun c=>sP c (f::ws)).map fun cf=>⟨{r.x with cf:=cf},8,r.seen⟩
   else none
def ti:List (List UInt8)->Bool
 |[]=>true
 |w::_=>w.head?==some 35
def lR:Nat->jL->List (List UInt8)->Except Nat jL
 |_,r,[]=>.ok r
 |i,r,s::ss=>if ti (iA [] s)then lR (i+1) r ss else match kp r (iA [] s)with
  |none=>.error (i+1)
  |some q=>lR (i+1) q ss
def mG:gR:=⟨⟨#[]⟩,0,0,0,0,[],[],[],[]⟩
def Ae:jL:=⟨mG,-1,[]⟩
structure PP where
 x:gR
 line:Int
 e:Int
def nr(t:List UInt8):PP:=
 if 20000<t.length then⟨mG,0,3⟩else
 match lR 0 Ae (io [] t)with
 | .error i=>⟨mG,(i:Int),5⟩
 | .ok r=>if r.at_≠9 then⟨mG,((io [] t).length:Int),5⟩else if iI r.x=true then⟨r.x,0,0⟩else⟨mG,0,120⟩
def MR{l i p}(h:qx l i p=true):∃(k:Nat)(y:gM),i=(k:Int)/\k<l.length/\l[k]? =some y/\tr y=true/\tt y.s p=true:=by
 unfold qx at h;simp only[am]at h;obtain⟨⟨h1,h2⟩,_⟩:=h
 have h1:0<=i/\i<=(l.length:Int)-1:=by simpa[bt]using h1
 obtain⟨k,rfl⟩:∃k:Nat,i=(k:Int):=⟨i.toNat,by omega⟩
 have a:k<l.length:=by omega
 unfold Eq at h2;rw[aI,ae a]at h2;simp only[vl,am]at h2;exact⟨k,l[k],rfl,a,ae a,h2.1,h2.2⟩

def iX:Ending:=.panicked [{v:=.iface 124 (.agg #[]),recovered:=false}]
def kW(w):Calls prog 54 #[true] w fun e w'=>e=.returned (.tuple #[])/\w=w':=by
 go_enter func54,ntmps54;go_wp2_with fail;go_end0;exact⟨rfl,rfl⟩
def lm(w):Calls prog 54 #[false] w fun e w'=>e=iX/\w=w':=by
 go_enter func54,ntmps54;go_wp2_with fail;exact⟨rfl,rfl,rfl⟩
def JL(ws:List (List UInt8))(e:Ending):Prop:=match ws with
 |[v]=>e=.returned (.string (bs v))
 |_=>e=iX
def nF(ws a n c B w)(h:ua w a n c ws B):Calls prog 337 #[Z a n c] w fun e w'=>JL ws e/\w=w':=by
 have b:=h.1
 match ws,b,h with
 |[],b,h=>
  obtain rfl:n=0:=b.symm;clear h;go_enter func337,ntmps337;go_wp2_with fail;refine(lm w).mono ?_;rintro e f ⟨rfl,rfl⟩;unfold iX;go_wp2_with fail;exact⟨rfl,rfl,rfl⟩
 |[v],b,h=>
  obtain rfl:n=1:=b.symm;obtain⟨g,off,rfl,k,d⟩:=h.2.2 (by omega);have c0:w.cell? ⟨g,off,none⟩=some (.string (bs v)):=d 0 v rfl;have i:=h.2.1;clear d h b;go_enter func337,ntmps337;go_wp2_with fail;refine(kW w).mono ?_;rintro e f ⟨rfl,rfl⟩;go_wp2_with fail;go_ret;exact⟨rfl,rfl⟩
 |v::u::r,b,h=>
  have j:n=r.length+2:=by rw[<- b];simp
  have h1:((n:Int)==1)=false:=by rw[ak];omega
  clear h b j;go_enter func337,ntmps337;go_wp2_with fail;refine(lm w).mono ?_;rintro e f ⟨rfl,rfl⟩;unfold iX;go_wp2_with fail;exact⟨rfl,rfl,rfl⟩
def kX(l:List UInt8)(d:Nat)(e:Ending):Prop:=match lp l d with
 |some n=>e=.returned (.int .i64 n)
 |none=>e=iX
def mL(l)(d:Nat)(w)(n:l.length<=100000)(m:d<=18)(j:GW w):Calls prog 140 #[.string (bs l),.int .i64 (d:Int)] w fun e w'=>kX l d e/\Below w w w':=by
 go_enter func140,ntmps140;go_wp2_with fail;refine(DA l d w n m j).mono ?_;rintro e k ⟨rfl,h⟩;by_cases a:Fj l d=0
 .have g:lp l d=some (Fi l d):=by unfold lp;rw[aq a]
  have f:kX l d (.returned (.int .i64 (Fi l d))):=by unfold kX;rw[g]
  rw[a];have i:=O h;have b:=O f;clear h a g f j;go_wp2_with fail;refine(kW k).mono ?_;rintro e o ⟨rfl,rfl⟩;go_wp2_with fail;go_ret;exact⟨b,i⟩
 .have g:lp l d=none:=by unfold lp;rw[aj a]
  have f:kX l d iX:=by unfold kX;rw[g]
  have h0:(Fj l d==0)=false:=by rw[ak];exact a
  have i:=O h;have b:=O f;clear h a g f j;go_wp2_with fail;refine(lm k).mono ?_;rintro e o ⟨rfl,rfl⟩;have c:=b.out;unfold iX at c⊢;have b:=O c;clear c;go_wp2_with fail;exact⟨rfl,b,i⟩
def An:∀(ws:List (List UInt8))(ds:List Nat)(k:Nat)(zs:List Int)(x:List UInt8)(d:Nat)(n:Int),ws[k]? =some x->ds[k]? =some d->kF (ws.take k) (ds.take k)=some zs->lp x d=some n->kF (ws.take (k+1)) (ds.take (k+1))=some (zs++[n])
 |[],_,k,_,_,_,_,h,_,_,_=>by simp at h
 |_::_,[],k,_,_,_,_,_,h,_,_=>by simp at h
 |w::ws,e::ds,0,zs,x,d,n,h1,h2,h3,h4=>by
  simp only[eS,bA]at h1 h2;subst h1;subst h2;simp only[dU,kF,bA]at h3;subst h3;simp[kF,h4]
 |w::ws,e::ds,k+1,zs,x,d,n,h1,h2,h3,h4=>by
  simp only[cS]at h1 h2;rw[dI,dI,kF]at h3⊢
  cases hv:lp w e with
  |none=>rw[hv]at h3;cases h3
  |some m=>
   rw[hv]at h3
   cases hr:kF (ws.take k) (ds.take k)with
   |none=>rw[hr]at h3;cases h3
   |some a=>
    rw[hr]at h3;simp only[bA]at h3;subst h3;simp only[An ws ds k a x d n h1 h2 hr h4];rfl
def Ao:∀(ws:List (List UInt8))(ds:List Nat)(k:Nat)(x:List UInt8)(d:Nat),ws[k]? =some x->ds[k]? =some d->lp x d=none->kF ws ds=none
 |[],_,k,_,_,h,_,_=>by simp at h
 |_::_,[],k,_,_,_,h,_=>by simp at h
 |w::ws,e::ds,0,x,d,h1,h2,h3=>by
  simp only[eS,bA]at h1 h2;subst h1;subst h2;rw[kF,h3]
 |w::ws,e::ds,k+1,x,d,h1,h2,h3=>by
  simp only[cS]at h1 h2;rw[kF,Ao ws ds k x d h1 h2 h3];cases lp w e<;>rfl
def qj:∀(ws:List (List UInt8))(ds:List Nat)(zs:List Int),kF ws ds=some zs->zs.length=ws.length/\ws.length=ds.length
 |[],[],zs,h=>by simp only[kF,bA]at h;subst h;exact⟨rfl,rfl⟩
 |[],_::_,_,h=>by cases h
 |_::_,[],_,h=>by cases h
 |w::ws,e::ds,zs,h=>by
  rw[kF]at h
  cases hv:lp w e with
  |none=>rw[hv]at h;cases h
  |some m=>
   rw[hv]at h
   cases hr:kF ws ds with
   |none=>rw[hr]at h;cases h
   |some a=>
    rw[hr]at h;simp only[bA]at h;subst h;obtain⟨h1,h2⟩:=qj ws ds a hr;exact⟨by simp[h1],by simp[h2]⟩
def NB{ws ds}(h:ws.length≠ds.length):kF ws ds=none:=by
 cases hr:kF ws ds with
 |none=>rfl
 |some zs=>exact absurd (qj ws ds zs hr).2 h
def mu(w:World)(ws:List (List UInt8))(ds:List Nat)(e:Ending)(w':World):Prop:=match kF ws ds with
 |some zs=>(∃a c,e=.returned (.slice a zs.length c)/\SL w' w' a zs.length c zs/\ ∀b,(Value.slice a zs.length c).ownBlock=some b->w.heap.size<=b)/\Below w w w'
 |none=>e=iX/\Below w w w'
def DB{w w':World}{ws ds zs e}(h:kF ws ds=some zs)(h1:∃a c,e=.returned (.slice a zs.length c)/\SL w' w' a zs.length c zs/\ ∀b,(Value.slice a zs.length c).ownBlock=some b->w.heap.size<=b)(h2:Below w w w'):mu w ws ds e w':=by
 unfold mu;rw[h];exact⟨h1,h2⟩
def wD{w w':World}{ws ds e}(h:kF ws ds=none)(h1:e=iX)(h2:Below w w w'):mu w ws ds e w':=by
 unfold mu;rw[h];exact⟨h1,h2⟩
def RA{w:World}{base v n zs}(h:w.ownsRow base 3 1 v n (zs.map (Value.int .i64))):∃a c,v=.slice a zs.length c/\SL w w a zs.length c zs:=by
 have f:=h.1;rw[aU,dn]at f;subst f
 rcases(mz h).2 with⟨rfl,h0⟩|⟨g,cap,rfl,i,d,b⟩
 .have:zs=[]:=aX.1 h0
  subst this;exact⟨none,0,rfl,SL.nil _ _ _ _⟩
 .refine⟨some ⟨g,0,none⟩,cap,rfl,rfl,d,fun _=>⟨g,0,rfl,b.lt,fun j e=>?_⟩⟩
  rw[aV,b.cell (j:=j) (by rw[aU];exact e)];simp[ah,ae e]
def sS(ws ds a b n m c c' w)(h:ua w a n c ws w)(hs:SL w w b m c' (ds.map fun(d:Nat)=>(d:Int)))(hn:n<=100000)(hm:m<=100)(X:∀s∈ws,s.length<=100000)(T:∀d∈ds,d<=18)(hg:GW w):
 Calls prog 138 #[Z a n c,Z b m c'] w (mu w ws ds):=by
 have hl:=h.1
 have W:m=ds.length:=by rw[hs.1];simp
 by_cases b7:n=m
 .subst b7
  have H:=O h;have Hs:=O hs;have Hg:=O hg;have b5:=O X;have b2:=O T;have Hl:=O hl;have a3:=O W;clear h hs hg X T hl W;go_enter func138,ntmps138;go_wp2_with fail;refine(kW w).mono ?_;rintro e w1 ⟨rfl,rfl⟩;go_upto_region 4 with fail
  go_loopw [5,16] (fun v iv wr=>∃(k:Nat)(zs:List Int),k<=n/\iv=.int .i64 (k:Int)/\wr.ownsRow w 3 1 v k (zs.map (Value.int .i64))/\kF (ws.take k) (ds.take k)=some zs/\Below w w wr) (fun _ iv _=>n-(intOf iv).toNat)
  case atStart=>exact⟨0,[],aA _,rfl,⟨rfl,VR ⟨rfl,rfl⟩⟩,rfl,TH _ _⟩
  case round=>
   obtain⟨k,zs,hk,rfl,A,C,P⟩:=hrel;obtain⟨va,vc,rfl,a9⟩:=RA A;have E:=O A;have Hv:=O C;have i:=O P;have b3:=O a9;clear A C P a9;by_cases b6:k<n
   .obtain⟨x,hx⟩:∃x,ws[k]? =some x:=⟨ws[k]'(by have:=Hl.out;omega),ae _⟩
    obtain⟨d,hd⟩:∃d,ds[k]? =some d:=⟨ds[k]'(by have:=a3.out;omega),ae _⟩;obtain⟨g,off,rfl,hgl,hc⟩:=H.2.2 (by omega);have c0:wr.cell? ⟨g,off+k,none⟩=some (.string (bs x)):=(i.cell (p:=⟨g,off+k,none⟩) hgl).trans (hc k x hx);obtain⟨g2,K,rfl,a2,a5⟩:=Hs.at (by omega)
    have c1:wr.cell? ⟨g2,K+k,none⟩=some (.int .i64 (d:Int)):=by
     refine(i.cell (p:=⟨g2,K+k,none⟩) a2).trans ((a5 k b6).trans ?_);rw[ah,aR,hd];rfl
    clear hc a5;have b9:x.length<=100000:=b5 x (aL hx);have a1:d<=18:=b2 d (aL hd);have Hx:=O hx;have Hd:=O hd;clear hx hd;go_wp2_with fail;refine(mL x d wr b9 a1 (Hg.below i)).mono ?_;rintro e D ⟨Q,o⟩
    cases hvx:lp x d with
    |none=>
     have y:=Ao ws ds k x d Hx Hd hvx;unfold kX at Q;rw[hvx]at Q;subst Q;have B:=wD y rfl (i.trans (o.mono i.size));have N:=O B;clear hvx y o B c0 c1;have f:=N.out;unfold iX at f⊢;have R:=O f;clear f N;go_wp2_with fail;exact⟨rfl,R⟩
    |some z=>
     have u:=An ws ds k zs x d z Hx Hd Hv hvx;unfold kX at Q;rw[hvx]at Q;subst Q;have q:=kD E o;have l:=O q;have b0:=O (i.trans (o.mono i.size));have b4:=O u;have b8:=(i.trans (o.mono i.size)).size;clear hvx u q o c0 c1;have a7:=TL D (.cells #[z] 3);have S:=(TH D D).alloc (aa _) (.cells #[z] 3)
     have F:SL (D.alloc (.cells #[z] 3)).heap.size (D.alloc (.cells #[z] 3)) (J (D.heap.size)) 1 1 [z]:=by
      refine⟨rfl,aa _,fun _=>⟨D.heap.size,0,rfl,by simp,fun j hj=>?_⟩⟩
      obtain rfl:j=0:=by omega
      exact gA a7 0
     have r:=kD l S;have a0:=O F;have L:=O r;have c3:=O S;clear a7 S F r
     go_wp2_with(refine ju rfl (.tmp 21) (.tmp 28) 162 rfl underlying162 w _ k zs rfl L _ _ 1 1 [z] rfl a0 (by intro e;cases e) (by omega) (by simp;omega) ?_;intro v' w3 t a6)
     have a4:Below w w w3:=jF b0 l a6 (aa _) b8;have M:=O t;have b1:=O a4;clear t a6 a4
     go_roundw
     case rel=>exact⟨k+1,zs++[z],by omega,by go_num,M,b4,b1⟩
     case measure=>simp[intOf];omega
   .obtain rfl:k=n:=by omega
    have C:=Hv.out;rw[aM (by have:=Hl.out;omega),aM (by have:=a3.out;omega)]at C;have c2:=qj ws ds zs C;have B:mu w ws ds (.returned (.slice va zs.length vc)) wr:=DB C ⟨va,vc,rfl,b3,fun b P=>(E.lt b P).1⟩ i;have N:=O B;clear B C c2;go_wp2_with fail;go_ret;exact N
 .have a8:ws.length≠ds.length:=by omega
  have B:∀w',Below w w w'->mu w ws ds iX w':=fun w' P=>wD (NB a8) rfl P
  have h0:((n:Int)==(m:Int))=false:=by rw[ak];omega
  have N:=O B;clear h hs hg X T hl W a8 B;go_enter func138,ntmps138;go_wp2_with fail;refine(lm w).mono ?_;rintro e w1 ⟨rfl,rfl⟩;have f:=N w (TH _ _);unfold iX at f⊢;have R:=O f;clear f;go_wp2_with fail;exact⟨rfl,R⟩
def QB:Nat->FuncId
 |0=>308
 |1=>309
 |2=>310
 |3=>311
 |4=>312
 |5=>313
 |6=>314
 |7=>315
 |8=>316
 |9=>317
 |10=>318
 |11=>319
 |12=>320
 |13=>321
 |14=>322
 |15=>323
 |_=>324
def NC(a b):(bs a==bs b)=(a==b):=by
 show(a.toArray==b.toArray)=(a==b)
 simp
abbrev ND:=List (List UInt8×Value)
def rR(l:ND)(nm:List UInt8):Option Value:=(l.find? fun e=>e.1==nm).map (·.2)
def Li(w:World)(b:Nat)(l:ND):Prop:=
 ∃c a,w.heap[b]? =some (.map c a)/\c.toList.map (fun e=>(e.key,e.val))=l.map (fun x=>(Value.string (bs x.1),x.2))
def Li.block{w w' b l}(h:Li w b l)(d:w'.heap[b]? =w.heap[b]?):Li w' b l:=by
 obtain⟨c,a,h1,h2⟩:=h;exact⟨c,a,d.trans h1,h2⟩
def Cr(s):∀(l:List MapEntry)(ks:ND)(i:Nat),l.map (fun e=>(e.key,e.val))=ks.map (fun x=>(Value.string (bs x.1),x.2))->
 (∃v,rR ks s=some v/\ ∃j,Instr.findNow .string (.string (bs s)) l i=some (some (j,v)))\/(rR ks s=none/\Instr.findNow .string (.string (bs s)) l i=some none)
 |[],[],i,_=>VS ⟨rfl,rfl⟩
 |[],k::ks,i,h=>by cases h
 |e::l,[],i,h=>by cases h
 |e::l,k::ks,i,h=>by
  simp only[aN,ei,dK]at h;obtain⟨⟨h1,h2⟩,h3⟩:=h;unfold Instr.findNow;rw[h1,h2];simp only[Instr.sameNow,NC];cases e:(s==k.1)
  .have a:(k.1==s)=false:=by rw[ak]at e⊢;exact fun x=>e x.symm
   obtain ⟨v,b,c⟩|⟨b,c⟩:=Cr s l ks (i+1) h3
   .exact VR ⟨v,by unfold rR at*;rw[fP,a];exact b,c⟩
   .exact VS ⟨by unfold rR at*;rw[fP,a];exact b,c⟩
  .have a:(k.1==s)=true:=by rw[dz]at e⊢;exact e.symm
   exact VR ⟨k.2,by unfold rR;rw[fP,a];rfl,i,rfl⟩
def mM{P t kt e}(m:P.underlying t=some (.map kt e))(a:P.underlying kt=some .string){w z}(o:(zeroValue e).run P w=.ok z w){b l}(h:Li w b l)(s ok):
 (Instr.lookup t (.map (some b)) (.string (bs s)) ok).run P w=.ok (if ok then .tuple #[(rR l s).getD z,.bool (rR l s).isSome]else(rR l s).getD z) w:=by
 obtain⟨n,f,g,k⟩:=h
 have i:∀b,(Instr.checkKey b 10000 kt (.string (bs s))).run P w=.ok () w:=fun b=>by
  rw[show(10000:Nat)=9999+1 from rfl,Instr.checkKey,bR,bQ a];rfl
 obtain ⟨v,c,j,d⟩|⟨c,d⟩:=Cr s n.toList l 0 k
 .cases ok<;>simp[Instr.lookup,Instr.findKey,bR,bQ m,bQ a,MapKept.run_getObj_map g,i,d,c]
 .cases ok<;>simp[Instr.lookup,Instr.findKey,bR,bQ m,bQ a,MapKept.run_getObj_map g,i,d,c,o]
def Ap(N g:Nat)(w:World)(a:List UInt8->Option Value):Prop:=∃b l,w.cell? (J g)=some (.map (some b))/\b<N/\Li w b l/\ ∀s,rR l s=a s
def Ap.below{N g w w'}{a:List UInt8->Option Value}(h:Ap N g w a)(e:g<N)(c:Below N w w'):Ap N g w' a:=by
 obtain⟨b,l,h1,h2,h3,d⟩:=h;exact⟨b,l,(c.cell (p:=J g) e).trans h1,h2,h3.block (c.block b h2),d⟩
def Ap.mono{N M g w}{a:List UInt8->Option Value}(h:Ap N g w a)(d:N<=M):Ap M g w a:=by
 obtain⟨b,l,h1,h2,h3,c⟩:=h;exact⟨b,l,h1,by omega,h3,c⟩
def yE(s:List UInt8):Option Value:=
 if s=lB then some (.agg #[.string (bs lB),.int .i64 6,.func (.func 325) #[] #[]])else if s=kj then some (.agg #[.string (bs kj),oZ,.func (.func 326) #[] #[]])else none
def RB:Nat->FuncId
 |0=>327
 |1=>328
 |2=>329
 |3=>330
 |4=>331
 |5=>332
 |6=>333
 |7=>334
 |8=>335
 |_=>336
def Fv(s:List UInt8):Option Value:=(kV.findIdx? (· ==s)).map fun k=>.func (.func (RB k)) #[] #[]
structure TW (N:Nat) (w:World):Prop where
 glo:14<=N
 par:∀i,i<17->w.rangeAt 0 (i*3) [.string (bs (kO.getD i [])),.int .i64 (oo (i+1):Int),.func (.func (QB i)) #[] #[]]
 ord:∃a n c,w.cell? (J 1)=some (.slice a n c)/\ua w a n c kV N
 oth:Ap N 3 w yE
 rdr:Ap N 4 w Fv
 kin:∃a n c,w.cell? (J 2)=some (.slice a n c)/\ua w a n c kP N
def TW.below{N w w'}(h:TW N w)(b:Below N w w'):TW N w':=by
 refine⟨h.glo,fun i hi j v e=>?_,?_,h.oth.below (ab (show 3<14 by decide) h.glo) b,h.rdr.below (ab (show 4<14 by decide) h.glo) b,?_⟩
 .exact(b.cell (p:=⟨0,i*3+j,none⟩) (ab (show 0<14 by decide) h.glo)).trans (h.par i hi j v e)
 .obtain⟨a,n,c,h1,h2⟩:=h.ord
  exact⟨a,n,c,(b.cell (p:=J 1) (ab (show 1<14 by decide) h.glo)).trans h1,h2.kept (fun k d=>b.block k d) (aa _)⟩
 .obtain⟨a,n,c,h1,h2⟩:=h.kin
  exact⟨a,n,c,(b.cell (p:=J 2) (ab (show 2<14 by decide) h.glo)).trans h1,h2.kept (fun k d=>b.block k d) (aa _)⟩
def Lj(o:Option Nat):Int:=match o with
 |some i=>(i:Int)
 |none=> -1
def Aq{l:List (List UInt8)}{s k x}(b:l[k]? =some x)(a:∀y∈l.take k,(y==s)=false)(h:(x==s)=true):l.findIdx? (· ==s)=some k:=by
 have c:=(TG.1 b).1;rw[fm];refine⟨c,by rw[(TG.1 b).2];exact h,fun j d=>?_⟩;have:=a l[j] (List.mem_take_iff_getElem.2 ⟨j,by omega,rfl⟩);simp[this]
def vC{l:List (List UInt8)}{s}(a:∀y∈l,(y==s)=false):l.findIdx? (· ==s)=none:=by
 rw[List.findIdx?_eq_none_iff];exact a
def JM{l:List (List UInt8)}{s x k}(c:l[k]? =some x)(b:∀y∈l.take k,(y==s)=false)(h:(x==s)=false):∀y∈l.take (k+1),(y==s)=false:=by
 intro y a;have d:=(TG.1 c).1;rw[eK,c]at a
 obtain a|a:=bj.1 a
 .exact b y a
 .simp at a;subst a;exact h
def Ar(l s a n c N w)(h:ua w a n c l N)(z:N<=w.heap.size)(D:n<=100000):
 Calls prog 90 #[Z a n c,.string (bs s)] w (iZ w (.int .i64 (Lj (l.findIdx? (· ==s))))):=by
 have v:=h.1;have H:=O h;have t:=O v;clear h v;go_enter func90,ntmps90;go_wp2_with fail
 go_loopw [8] (fun r wr=>∃k:Nat,k<=n/\r=.int .i64 (k:Int)/\(∀y∈l.take k,(y==s)=false)/\Below w w wr) (fun r _=>n-(intOf r).toNat)
 case atStart=>exact⟨0,aA _,rfl,by simp,TH _ _⟩
 case round=>
  obtain⟨k,C,rfl,o,m⟩:=hrel;have b:=O o;have i:=O m;clear o m;by_cases B:k<n
  .obtain⟨x,f⟩:∃x,l[k]? =some x:=⟨l[k]'(by have:=t.out;omega),ae _⟩
   obtain⟨g,off,rfl,hgl,u⟩:=H.2.2 (by omega);have c0:wr.cell? ⟨g,off+k,none⟩=some (.string (bs x)):=(i.cell (p:=⟨g,off+k,none⟩) (ab hgl z)).trans (u k x f);clear u;cases hb:(s==x)
   .have d:(x==s)=false:=by rw[ak]at hb⊢;exact fun e=>hb e.symm
    have j:=O (JM f b d);clear f d b;go_wp2_with fail
    go_roundw
    case rel=>exact⟨k+1,by omega,by go_num,j,i⟩
    case measure=>simp[intOf];omega
   .have d:(x==s)=true:=by rw[dz]at hb⊢;exact hb.symm
    have hf:=Aq f b d;have q:=O hf;clear f d b hf;go_wp2_with fail;go_ret;exact⟨by rw[q];rfl,i⟩
  .obtain rfl:k=n:=by omega
   have hf:l.findIdx? (· ==s)=none:=vC (fun y A=>b y (by rw[aM (by have:=t.out;omega)];exact A));have q:=O hf;clear hf;go_wp2_with fail;go_ret;exact⟨by rw[q];rfl,i⟩
def Pp(w:World)(l:List gM)(i p v:Int)(e:Ending)(w':World):Prop:=
 (nT l i p v=false/\e=.returned (.tuple #[oN,false])/\Below w w w')\/
 (nT l i p v=true/\ ∃g c,e=.returned (.tuple #[Z (J g) l.length c,true])/\oJ w w' (.slice (J g) l.length c) (qy l i p v)/\Below w w w')
def Kn(s zs p v a n c)(w:World)(i:IR w w 3 a n c zs)(g:n<=1000000)(d:a=none->c=0)(f:s.i7.size<=9223372036854775807)(h1:(mw s zs n p v==0)=false):
 Calls prog 187 #[.agg (⟨s,a,n,c⟩:jt),p,v] w (fun e w'=>e=.returned (.tuple #[.agg zS,.int .i64 (mw s zs n p v)])/\Below w w w'):=
 (zr s zs p v a n c w i g d f).mono (by
   rintro e w' (⟨_,h,b⟩|⟨h0,_⟩)
   .exact⟨h,b⟩
   .rw[h0]at h1;simp at h1)
def GK(s zs p v a n c)(w:World)(i:IR w w 3 a n c zs)(g:n<=1000000)(d:a=none->c=0)(f:s.i7.size<=9223372036854775807)(h1:mw s zs n p v=0):
 Calls prog 187 #[.agg (⟨s,a,n,c⟩:jt),p,v] w (fun e w'=>∃a c,e=.returned (.tuple #[.agg #[.int .i64 (s.put p v).kind,.int .i64 (s.put p v).curv,.int .i64 (s.put p v).conic,.int .i64 (s.put p v).t6,.int .i64 (s.put p v).t7,.int .i64 (s.put p v).a0,.int .i64 (s.put p v).a1,.int .i64 (s.put p v).a2,.int .i64 (s.put p v).a3,.int .i64 (s.put p v).p0,.int .i64 (s.put p v).p1,.int .i64 (s.put p v).order,.int .i64 (s.put p v).t8,.string (s.put p v).i7,.int .i64 (s.put p v).r9,.int .i64 (s.put p v).p8,.int .i64 (s.put p v).dx,.int .i64 (s.put p v).dy,.int .i64 (s.put p v).ax,.int .i64 (s.put p v).ay,.int .i64 (s.put p v).az,Z a n c],oZ])/\jN (fun b=>w.heap.size<=b/\b<w'.heap.size) w' a n c zs/\(a=none->c=0)/\Below w w w'):=
 (zr s zs p v a n c w i g d f).mono (by
   rintro e w' (⟨h,_⟩|⟨_,h⟩)
   .exact absurd h1 h
   .exact h)
def Ko(l a n c w)(h:RR jE 22 (fun b=>b<w.heap.size) w a n c l)(j:n<=1000000)(h0:0<l.length):
 Calls prog 147 #[Z a n c] w (fun e w'=>∃g c,e=.returned (.slice (J g) l.length c)/\oJ w w' (.slice (J g) l.length c) l/\Below w w w'):=
 (zu l a n c w h j).mono (by
   rintro e w' ⟨v,rfl,d,f⟩
   obtain ⟨rfl,i⟩|⟨g,cap,rfl,_⟩:=d.r.form
   .rw[i]at h0;simp at h0
   .exact⟨g,cap,rfl,d,f⟩)
def Kp{s zs n p v}(h0:mw s zs n p v=0)(c:s.i7.size<=9223372036854775807):(s.put p v).i7.size<=9223372036854775807:=by
 obtain⟨_,b⟩:=vm (show nj s zs n p=0 from by
  apply bg;intro a
  unfold mw at h0;rw[aj a]at h0;exact a h0)
 obtain⟨d,e⟩:=oM b
 obtain rfl|rfl|rfl|rfl|rfl|rfl|rfl|rfl|rfl|rfl|rfl|rfl|rfl|rfl|rfl|rfl|rfl:=oL d e<;>exact c
def UW(l a n c)(i p v:Int)(w)(h:RR jE 22 (fun b=>b<w.heap.size) w a n c l)(hn:n<=1000000):
 Calls prog 148 #[Z a n c,i,p,v] w (Pp w l i p v):=by
 have z:=h.1;have H:=O h;clear h;go_enter func148,ntmps148
 cases hh:qx l i p with
 |false=>
  have d:nT l i p v=false:=by unfold nT;rw[hh];rfl
  have Hh:=O hh;have t:=O d;clear hh d
  go_wp2_with((with_reducible refine(Ex l _ n c i p _ H.out hn).mono ?_);rintro e w2 ⟨T,f⟩;rw[Hh.out]at T;subst T;have c1:=O f;clear f)
  go_ret2;exact VR ⟨t.out,rfl,c1.out⟩
 |true=>
  have c6:0<=i/\i<=(n:Int)-1:=by
   unfold qx at hh;simp only[am]at hh;have:=hh.1.1;rw[z]at this;simpa[bt]using this
  obtain⟨k,rfl⟩:∃k:Nat,i=(k:Int):=⟨i.toNat,by omega⟩
  have c7:k<n:=by omega
  have W:k<l.length:=by omega
  have Hh:=O hh;clear hh c6;obtain⟨b,off,x,cs,rfl,hlt,hx,⟨a2,g,c2,rfl,hz,a4,b4,b5⟩,M⟩:=H.out.at c7;have b8:=mU hz;have Hz:=O (hz.ir (fun _ h=>h));have S:=O b5;have a7:=O b4;have K:=O M;have Hx:=O hx;have a8:=O b8;have HL:=O z;clear hz b5 b4 M hx b8
  go_upto_region 3 with((with_reducible refine(Ex l _ n c k p _ H.out hn).mono ?_);rintro e w2 ⟨T,f⟩;rw[Hh.out]at T;subst T;have C:=O f;clear f)
  have a6:mw x.s x.zs g p v=0\/(mw x.s x.zs g p v==0)=false:=by
   by_cases h:mw x.s x.zs g p v=0
   .exact VR h
   .exact VS (by simpa using h)
  obtain h0|h1:=a6
  .have d:nT l k p v=true:=by unfold nT;rw[Hh.out,aI,Hx.out];simp only;rw[<- a8.out];simp[h0]
   have u:qy l k p v=l.set k ⟨x.s.put p v,x.zs⟩:=by unfold qy;rw[aI,Hx.out];simp[d]
   have H0:=O h0;have t:=O d;have P:=O u;clear h0 d u z;have c3:=O (Kp H0.out S.out)
   go_upto_region 4 with(first
    |(refine lw (jb K.out (gE C.out) hlt) rfl (.tmp 21) rfl rfl ?_)
    |((with_reducible refine(GK x.s x.zs p v a2 g c2 _ (Hz.out.go C.out) a4 a7.out S.out H0.out).mono ?_);rintro e w3 ⟨a',c',rfl,hi,b3,B⟩;have Hi:=O hi;have c9:=O b3;have F:=O B;clear hi b3 B)
    |(refine lC (x.s.put p v) a' g c' _ rfl rfl (.tmp 10) (.tmp 26) rfl rfl rfl ?_))
   have L:=gY (o:=.cells #[.int .i64 (x.s.put p v).kind,.int .i64 (x.s.put p v).curv,.int .i64 (x.s.put p v).conic,.int .i64 (x.s.put p v).t6,.int .i64 (x.s.put p v).t7,.int .i64 (x.s.put p v).a0,.int .i64 (x.s.put p v).a1,.int .i64 (x.s.put p v).a2,.int .i64 (x.s.put p v).a3,.int .i64 (x.s.put p v).p0,.int .i64 (x.s.put p v).p1,.int .i64 (x.s.put p v).order,.int .i64 (x.s.put p v).t8,.string (x.s.put p v).i7,.int .i64 (x.s.put p v).r9,.int .i64 (x.s.put p v).p8,.int .i64 (x.s.put p v).dx,.int .i64 (x.s.put p v).dy,.int .i64 (x.s.put p v).ax,.int .i64 (x.s.put p v).ay,.int .i64 (x.s.put p v).az,Z a' g c'] 70) (TH w3 w3);refine gI (fun E=>Y E w3 (x.s.put p v) a' g c'/\Below w w E/\jN (fun b=>w.heap.size<=b/\b<E.heap.size) E a' g c' x.zs) ⟨Y.new w3 (x.s.put p v) a' g c',I C.out (I F.out L),Hi.out.kept ((gE L).mono (fun b f=>f.2)) (fun b f=>⟨af C.out.size f.1,ab f.2 L.size⟩)⟩ ?_;clear L F Hi;rintro w4 ⟨hs,b1,hi⟩;have c8:=hs.lt;have Hs:=O hs;have R:=O b1;have Hi:=O hi;clear hs b1 hi
   go_upto_region 7 with((with_reducible refine(Ko l _ n c _ (H.out.go iD R.out) hn (cX (aA k) W)).mono ?_);rintro e w5 ⟨Q,c5,rfl,ho,b2⟩;have Ho:=O ho;have A:=O b2;clear ho b2)
   have d0:w4.heap.size<=Q:=by
    obtain ⟨e,_⟩|⟨g',_,e,q,_⟩:=Ho.out.r.form
    .cases e
    .cases e;exact q
   obtain⟨lq,X,D,b0,N⟩:=Ho.out
   have b7:k<lq.length:=by rw[<- mD,X];exact W
   have a5:=R.out.size;have c0:rL (fun b=>w.heap.size<=b/\b<w5.heap.size/\b≠Q) w5 ⟨⟨x.s.put p v,x.zs⟩,w.heap.size,w4.heap.size⟩ (gX (x.s.put p v) a' g c'):=⟨a',g,c',rfl,Hi.out.kept ((gE A.out).mono (fun b f=>f.2)) (fun b f=>⟨⟨f.1,ab f.2 A.out.size,by have:=f.2;omega⟩,f⟩),a4,c3.out⟩
   have b9:oJ w (w5.setCells Q (k*22) (gX (x.s.put p v) a' g c')) (.slice (J Q) l.length c5) (l.set k ⟨x.s.put p v,x.zs⟩):=
    ⟨_,by rw[El,X],(D.down jX a5).set jX b7 c0,b0.set (fun j y hy _=>VS (N y (aL hy)).1),(fun q D=>by
      rw[im]
      obtain D|rfl:=bH D
      .exact⟨af a5 (N q D).1,(N q D).2⟩
      .exact⟨aa _,a5,A.out.size⟩)⟩
   have a9:=O b9;clear b9 c0 X D b0 N b7
   go_wp2_with(first
    |(refine gO (Hs.out.go A.out c8) rfl (.tmp 10) rfl rfl ?_)
    |(refine pX (x.s.put p v) a' g c' (Ho.out.r.there W) rfl _ _ rfl rfl rfl ?_;refine jJ (fun E=>oJ w E (.slice (J Q) l.length c5) (l.set k ⟨x.s.put p v,x.zs⟩)/\Below w w E) ⟨a9.out,ig (by omega) _ _ (I R.out A.out)⟩ ?_;clear Hs Ho a9;rintro w6 ⟨h6,b6⟩;have H6:=O h6;have c4:=O b6;clear h6 b6))
   go_ret2;exact VS ⟨t.out,Q,c5,rfl,by rw[P.out];exact H6.out,c4.out⟩
  .have d:nT l k p v=false:=by unfold nT;rw[aI,Hx.out];simp only;rw[<- a8.out];simp at h1;simp[h1]
   have t:=O d;clear d
   go_wp2_with(first
    |(refine lw (jb K.out (gE C.out) hlt) rfl (.tmp 21) rfl rfl ?_)
    |((with_reducible refine(Kn x.s x.zs p v a2 g c2 _ (Hz.out.go C.out) a4 a7.out S.out h1).mono ?_);rintro e w3 ⟨rfl,B⟩;have F:=O B;clear B;generalize mw x.s x.zs g p v=m at*)
    |(refine lC ⟨0,0,0,0,0,0,0,0,0,0,0,0,0,ik,0,0,0,0,0,0,0⟩ none 0 0 _ rfl rfl (.tmp 10) (.tmp 26) rfl rfl rfl ?_))
   go_ret2;exact VR ⟨t.out,rfl,I C.out (gY F.out)⟩
def Iv:Nat->Nat
 |0=>1
 |1=>2
 |2=>3
 |3=>4
 |4=>5
 |5=>6
 |6=>7
 |7=>8
 |8=>12
 |9=>14
 |10=>16
 |11=>17
 |12=>18
 |13=>19
 |14=>20
 |15=>9
 |16=>10
 |_=>0
def NE(b k w):Calls prog 308 #[.pointer (some ⟨b,k,none⟩)] w fun e w'=>e=.returned (.pointer (some ⟨b,k+1,none⟩))/\w=w':=by
 go_enter func308,ntmps308;go_wp2_with fail;go_ret;exact⟨rfl,rfl⟩
def NF(b k w):Calls prog 309 #[.pointer (some ⟨b,k,none⟩)] w fun e w'=>e=.returned (.pointer (some ⟨b,k+2,none⟩))/\w=w':=by
 go_enter func309,ntmps309;go_wp2_with fail;go_ret;exact⟨rfl,rfl⟩
def NG(b k w):Calls prog 310 #[.pointer (some ⟨b,k,none⟩)] w fun e w'=>e=.returned (.pointer (some ⟨b,k+3,none⟩))/\w=w':=by
 go_enter func310,ntmps310;go_wp2_with fail;go_ret;exact⟨rfl,rfl⟩
def NH(b k w):Calls prog 311 #[.pointer (some ⟨b,k,none⟩)] w fun e w'=>e=.returned (.pointer (some ⟨b,k+4,none⟩))/\w=w':=by
 go_enter func311,ntmps311;go_wp2_with fail;go_ret;exact⟨rfl,rfl⟩
def NI(b k w):Calls prog 312 #[.pointer (some ⟨b,k,none⟩)] w fun e w'=>e=.returned (.pointer (some ⟨b,k+5,none⟩))/\w=w':=by
 go_enter func312,ntmps312;go_wp2_with fail;go_ret;exact⟨rfl,rfl⟩
def NJ(b k w):Calls prog 313 #[.pointer (some ⟨b,k,none⟩)] w fun e w'=>e=.returned (.pointer (some ⟨b,k+6,none⟩))/\w=w':=by
 go_enter func313,ntmps313;go_wp2_with fail;go_ret;exact⟨rfl,rfl⟩
def NK(b k w):Calls prog 314 #[.pointer (some ⟨b,k,none⟩)] w fun e w'=>e=.returned (.pointer (some ⟨b,k+7,none⟩))/\w=w':=by
 go_enter func314,ntmps314;go_wp2_with fail;go_ret;exact⟨rfl,rfl⟩
def NL(b k w):Calls prog 315 #[.pointer (some ⟨b,k,none⟩)] w fun e w'=>e=.returned (.pointer (some ⟨b,k+8,none⟩))/\w=w':=by
 go_enter func315,ntmps315;go_wp2_with fail;go_ret;exact⟨rfl,rfl⟩
def NM(b k w):Calls prog 316 #[.pointer (some ⟨b,k,none⟩)] w fun e w'=>e=.returned (.pointer (some ⟨b,k+12,none⟩))/\w=w':=by
 go_enter func316,ntmps316;go_wp2_with fail;go_ret;exact⟨rfl,rfl⟩
def Lk(b k w):Calls prog 317 #[.pointer (some ⟨b,k,none⟩)] w fun e w'=>e=.returned (.pointer (some ⟨b,k+14,none⟩))/\w=w':=by
 go_enter func317,ntmps317;go_wp2_with fail;go_ret;exact⟨rfl,rfl⟩
def Ll(b k w):Calls prog 318 #[.pointer (some ⟨b,k,none⟩)] w fun e w'=>e=.returned (.pointer (some ⟨b,k+16,none⟩))/\w=w':=by
 go_enter func318,ntmps318;go_wp2_with fail;go_ret;exact⟨rfl,rfl⟩
def Lm(b k w):Calls prog 319 #[.pointer (some ⟨b,k,none⟩)] w fun e w'=>e=.returned (.pointer (some ⟨b,k+17,none⟩))/\w=w':=by
 go_enter func319,ntmps319;go_wp2_with fail;go_ret;exact⟨rfl,rfl⟩
def Ln(b k w):Calls prog 320 #[.pointer (some ⟨b,k,none⟩)] w fun e w'=>e=.returned (.pointer (some ⟨b,k+18,none⟩))/\w=w':=by
 go_enter func320,ntmps320;go_wp2_with fail;go_ret;exact⟨rfl,rfl⟩
def Lo(b k w):Calls prog 321 #[.pointer (some ⟨b,k,none⟩)] w fun e w'=>e=.returned (.pointer (some ⟨b,k+19,none⟩))/\w=w':=by
 go_enter func321,ntmps321;go_wp2_with fail;go_ret;exact⟨rfl,rfl⟩
def Lp(b k w):Calls prog 322 #[.pointer (some ⟨b,k,none⟩)] w fun e w'=>e=.returned (.pointer (some ⟨b,k+20,none⟩))/\w=w':=by
 go_enter func322,ntmps322;go_wp2_with fail;go_ret;exact⟨rfl,rfl⟩
def Lq(b k w):Calls prog 323 #[.pointer (some ⟨b,k,none⟩)] w fun e w'=>e=.returned (.pointer (some ⟨b,k+9,none⟩))/\w=w':=by
 go_enter func323,ntmps323;go_wp2_with fail;go_ret;exact⟨rfl,rfl⟩
def Lr(b k w):Calls prog 324 #[.pointer (some ⟨b,k,none⟩)] w fun e w'=>e=.returned (.pointer (some ⟨b,k+10,none⟩))/\w=w':=by
 go_enter func324,ntmps324;go_wp2_with fail;go_ret;exact⟨rfl,rfl⟩
def NN(b k w):Calls prog 325 #[.pointer (some ⟨b,k,none⟩)] w fun e w'=>e=.returned (.pointer (some ⟨b,k+15,none⟩))/\w=w':=by
 go_enter func325,ntmps325;go_wp2_with fail;go_ret;exact⟨rfl,rfl⟩
def Ls(b k w):Calls prog 326 #[.pointer (some ⟨b,k,none⟩)] w fun e w'=>e=.returned (.pointer (some ⟨b,k+11,none⟩))/\w=w':=by
 go_enter func326,ntmps326;go_wp2_with fail;go_ret;exact⟨rfl,rfl⟩
def JN(i)(hi:i<17)(b k w):Calls prog (QB i) #[.pointer (some ⟨b,k,none⟩)] w fun e w'=>e=.returned (.pointer (some ⟨b,k+Iv i,none⟩))/\w=w':=by
 match i,hi with
 |0,_=>exact NE b k w
 |1,_=>exact NF b k w
 |2,_=>exact NG b k w
 |3,_=>exact NH b k w
 |4,_=>exact NI b k w
 |5,_=>exact NJ b k w
 |6,_=>exact NK b k w
 |7,_=>exact NL b k w
 |8,_=>exact NM b k w
 |9,_=>exact Lk b k w
 |10,_=>exact Ll b k w
 |11,_=>exact Lm b k w
 |12,_=>exact Ln b k w
 |13,_=>exact Lo b k w
 |14,_=>exact Lp b k w
 |15,_=>exact Lq b k w
 |16,_=>exact Lr b k w
 |i+17,hi=>omega
def Iw(i)(hi:i<17):Iv i=mi ((i:Int)+1):=by
 match i,hi with
 |0,_=>rfl
 |1,_=>rfl
 |2,_=>rfl
 |3,_=>rfl
 |4,_=>rfl
 |5,_=>rfl
 |6,_=>rfl
 |7,_=>rfl
 |8,_=>rfl
 |9,_=>rfl
 |10,_=>rfl
 |11,_=>rfl
 |12,_=>rfl
 |13,_=>rfl
 |14,_=>rfl
 |15,_=>rfl
 |16,_=>rfl
 |i+17,hi=>omega
def Tryz.infoPar:(prog.info? 116).map (·.size)=some 3:=by kernel_rfl
def qe{ops a c e w}{Q:Exit->Act->World->Prop}{b o}{s:ByteArray}{d:Int}{f}(p)(j:c.op=.load 116 p)(g:c.guard=none)(k:e.eval p=.pointer (some ⟨b,o,none⟩))(h:w.rangeAt b o [s,d,f])(i:wpList prog ops Q a (e.put c.dst (.agg #[s,d,f])) w):wpList prog ops Q (c::a) e w:=
 wpList_load_mid g 116 p j b o k [s,d,f] _ h underlying116 rfl Tryz.infoPar i
def oV{w:World}{b j v}(h:w.cell? ⟨b,j,none⟩=some v):b<w.heap.size:=by
 apply bg;intro a;rw[World.cell?,Array.getElem?_eq_none (by show w.heap.size<=b;omega)]at h;cases h
def tk(s:List UInt8):Int:=Lj (kO.findIdx? (· ==s))
def Lt(x s)(d:Int)(f b w)(c:w.cell? (J b)=some (.string (bs s))):
 Calls prog 182 #[.agg #[.string (bs x),d,f],U b] w (iZ w (.bool (x==s))):=by
 have g:=oV c;have a:=(TH w w).alloc (aa _) (.cells #[.string (bs x),d,f] 116);have h0:=TL w (.cells #[.string (bs x),d,f] 116);have c0:=gA h0 0;have h:=(a.cell (p:=J b) g).trans c;have e:=O a;clear c a h0;go_enter func182,ntmps182;go_wp2_with fail;go_ret;exact⟨rfl,e⟩
def Iy(s b N w)(t:TW N w)(D:N<=w.heap.size)(n:w.cell? (J b)=some (.string (bs s))):
 Calls prog 181 #[Z (J 0) 17 17,.func (.func 182) #[] #[U b]] w (iZ w (.int .i64 (tk s))):=by
 have u:=oV n;have A:=O t;have q:=O n;clear t n;go_enter func181,ntmps181;go_wp2_with fail
 go_loopw [8] (fun o wr=>∃k:Nat,k<=17/\o=.int .i64 (k:Int)/\(∀y∈kO.take k,(y==s)=false)/\Below w w wr) (fun o _=>17-(intOf o).toNat)
 case atStart=>exact⟨0,aA _,rfl,by simp,TH _ _⟩
 case round=>
  obtain⟨k,F,rfl,l,g⟩:=hrel;have a:=O l;have c:=O g;clear l g;by_cases j:k<17
  .have z:kO[k]? =some (kO.getD k []):=by rw[ah,ae (show k<kO.length from j)];rfl
   have v:=(A.below (c.mono D)).par k j;have C:=O v;have r:=O z;clear v z;generalize kO.getD k []=x at*;have i:wr.cell? (J b)=some (.string (bs s)):=(c.cell (p:=J b) u).trans q;have B:=O i;clear i
   go_wp2_with(refine qe (.tmp 14) rfl rfl rfl C ?_)
   refine(Lt x s _ _ b wr B).mono ?_;rintro e H ⟨rfl,h⟩;have f:=O (c.trans (h.mono c.size));clear h;cases hbx:(x==s)
   .have d:=O (JM r a hbx)
    clear a;go_wp2_with fail
    go_roundw
    case rel=>exact⟨k+1,by omega,by go_num,d,f⟩
    case measure=>simp[intOf];omega
   .have m:=O (Aq r a hbx)
    clear a;go_wp2_with fail;go_ret;exact⟨by unfold tk;rw[m];rfl,f⟩
  .obtain rfl:k=17:=by omega
   have hf:kO.findIdx? (· ==s)=none:=vC (fun y E=>a y (by rw[aM (by decide)];exact E));have m:=O hf;clear hf;go_wp2_with fail;go_ret;exact⟨by unfold tk;rw[m];rfl,c⟩
def uc(s N w)(c:TW N w)(i:N<=w.heap.size):Calls prog 139 #[.string (bs s)] w (iZ w (.int .i64 (tk s))):=by
 have a:=(TH w w).alloc (aa _) (.cells #[.string (bs s)] 9);have h0:=TL w (.cells #[.string (bs s)] 9);have c0:=gA h0 0;have f:=O (c.below (a.mono i));have b:=O a;have h:=O c0;clear c a h0 c0;go_enter func139,ntmps139;go_wp2_with fail;refine(Iy s w N _ f (by simp;omega) h).mono ?_;rintro e j ⟨rfl,d⟩;have g:=O (b.trans (d.mono b.size));clear d;go_wp2_with fail;go_ret;exact⟨rfl,g⟩
