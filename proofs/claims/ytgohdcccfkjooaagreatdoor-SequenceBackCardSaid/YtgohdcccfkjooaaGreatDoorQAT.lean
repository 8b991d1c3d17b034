import Derived.Test.YtgohdcccfkjooaaGreatDoorQAS
namespace Go.Proofs.YtgohdcccfkjooaaGreatDoor
set_option linter.all false
set_option maxRecDepth 100000
set_option maxHeartbeats 3200000
open Go.Proofs.Tryz Go.RowKit
def pe(l:List gM):Bool:=match l[l.length-1]? with
 |some x=>pM x.s (x.zs.length/3)
 |none=>false
def kU(l:List gM)(i:Int):Int:=match l[i.toNat]? with
 |some x=>x.s.kind
 |none=>0
def iW(stop:Int)(l:List gM):Bool:=bt (l.length:Int) 2 16&&bt stop 0 ((l.length:Int)-2)&& !uM l&&pe l&& (kU l stop !=3)
def A4(x f v s k g T w)(hg:hU w g T x f v s k)(hf:RR jE 22 (fun b=>b<w.heap.size) w s.a s.n s.c x.l)(hn:s.n<=1000000):
 Calls prog 125 #[U g] w (iZ w (.bool (iW x.stop x.l))):=by
 have Hg:=O hg;have Hf:=O hf;have a8:=hf.1;clear hg hf;obtain⟨sa,n,sc⟩:=s;simp only at*;obtain⟨_,_,_,c3,_,_,_,S,_⟩:=Hg.cells;have hl:=Hg.lt
 have a7:iW x.stop x.l=(bt (n:Int) 2 16&&bt x.stop 0 ((n:Int)-2)&& !uM x.l&&pe x.l&& (kU x.l x.stop !=3)):=by unfold iW;rw[a8]
 have E:=O a7;clear a7;have d4:IntKind.i64.wrap ((n:Int)-2)=(n:Int)-2:=TM _ (by omega)
 cases h1:bt (n:Int) 2 16 with
 |false=>
  have H1:=O h1;clear h1
  go_enter func125,ntmps125
  go_wp2_with((with_reducible refine(jc (n:Int) 2 16 _).mono ?_);rintro e w2 ⟨i,D⟩;rw[H1]at i;subst i;have Hb:=O D;clear D)
  go_ret;exact⟨by rw[E,H1];rfl,Hb⟩
 |true=>
  have d2:2<=(n:Int)/\(n:Int)<=16:=by simpa[bt]using h1
  have H1:=O h1;clear h1
  cases h2:bt x.stop 0 ((n:Int)-2)with
  |false=>
   have H2:=O h2;clear h2
   go_enter func125,ntmps125
   go_wp2_with(first
    |((with_reducible refine(jc (n:Int) 2 16 _).mono ?_);rintro e w2 ⟨i,D⟩;rw[H1]at i;subst i;have Hb:=O D;clear c3 S;have c3:=(D.cell (p:=⟨g,3,none⟩) hl).trans (Hg.cells).2.2.2.1;clear D)
    |((with_reducible refine(jc x.stop 0 ((n:Int)-2) _).mono ?_);rintro e L ⟨i,D⟩;rw[H2]at i;subst i;have M:=O D;clear D))
   go_ret;exact⟨by rw[E,H1,H2];rfl,I Hb M⟩
  |true=>
   have b5:0<=x.stop/\x.stop<=(n:Int)-2:=by simpa[bt]using h2
   have H2:=O h2;clear h2;obtain⟨m,hm⟩:∃m,n=m+1:=⟨n-1,by omega⟩;obtain⟨j,hj⟩:∃j:Nat,x.stop=(j:Int):=⟨x.stop.toNat,by omega⟩
   have c0:m<n:=by omega
   have b9:j<n:=by omega
   have d3:IntKind.i64.wrap ((n:Int)-1)=(m:Int):=(TM _ (by omega)).trans (by omega);have Hm:=O hm;have Hj:=O hj;have c6:=O b5;clear hm hj b5
   go_enter func125,ntmps125
   go_upto_region 5 with(first
    |((with_reducible refine(jc (n:Int) 2 16 _).mono ?_);rintro e w2 ⟨i,D⟩;rw[H1]at i;subst i;have Hb:=O D;clear c3 S;have c3:=(D.cell (p:=⟨g,3,none⟩) hl).trans (Hg.cells).2.2.2.1;clear D)
    |((with_reducible refine(jc x.stop 0 ((n:Int)-2) _).mono ?_);rintro e L ⟨i,D⟩;rw[H2]at i;subst i;have M:=O (I Hb D);clear D))
   have hgl:g<L.heap.size:=ab hl M.size;obtain⟨_,_,_,c3,_,_,_,S,_⟩:=(Hg.go M).cells;rw[Hj]at c3;have a4:=O (Hf.go iD M);obtain⟨b1,off,y,cs,rfl,hlt,u,⟨a2,n2,c2,rfl,hz,c4,b7,b8⟩,hr⟩:=a4.at c0;obtain⟨c8,c5,z,d1,e',_,b6,⟨a3,n3,c9,rfl,c1,_,_,_⟩,b4⟩:=a4.at b9;cases e'
   have a0:pe x.l=pM y.s n2:=by unfold pe;rw[a8,show n-1=m by(have:=Hm.out;omega),u];simp only;rw[<- mU hz]
   have X:kU x.l x.stop=z.s.kind:=by unfold kU;rw[Hj,aI,b6]
   have W:=O a0;have b0:=O X;have Hr:=O hr
   have d0:L.cell? ⟨b1,off+j*22,none⟩=some (.int .i64 z.s.kind):=by have:=b4 0 _ rfl;rwa[bE]at this
   clear a0 X hr b4 hz c1 u b6 b7 b8
   cases hbad:uM x.l with
   |true=>
    have A:=O hbad;clear hbad;refine ic 37 [] [] [(0,true),(1,true),(2,true),(3,true),(4,true),(5,true),(6,false),(7,true),(8,true),(9,true),(10,true),(11,true),(12,true),(13,true),(14,true),(15,true),(16,true),(17,true),(18,true),(19,true),(20,true),(21,true),(22,true),(23,true),(24,true),(25,true),(26,true),(27,true),(28,true),(29,true),(30,true),(31,true),(32,true),(33,true),(34,true),(35,true),(36,true)] (by kernel_rfl) (by kernel_rfl) ⟨by simp,by simp,fun _ h=>by cases h⟩ (fun _ _ _ _ _ h=>h) (fun _ _ o _ _ h=>by cases o<;>exact h) ?_
    iterate 6
     refine gZ (v:=?_) rfl rfl (by rfl) ?_ ?_;rotate_left
     .intro y u
      have z7:=(u.cell (p:=⟨g,7,none⟩) hgl).trans S;go_simp
      with_reducible rfl
     try simp only[V]
    refine iK rfl rfl (fun x1 P K H=>?_);go_simp;have q:Below L L x1:=gJ (k:=1) P;refine(su x.l _ n sc _ (a4.go iD q) hn).mono ?_;rintro e Q ⟨i,C⟩;rw[A]at i;subst i;refine H _ _ C ?_;clear H K;have d:=I q C
    iterate 2
     refine iy (v:=?_) rfl (by rfl) ?_ ?_;rotate_left
     .intro y
      go_simp
      with_reducible rfl
     try simp only[V]
    iterate 10
     refine nh rfl (by rfl) ?_
     try simp only[V]
    iterate 2
     refine iy (v:=?_) rfl (by rfl) ?_ ?_;rotate_left
     .intro y
      go_simp
      with_reducible rfl
     try simp only[V]
    iterate 14
     refine nh rfl (by rfl) ?_
     try simp only[V]
    iterate 2
     refine iy (v:=?_) rfl (by rfl) ?_ ?_;rotate_left
     .intro y
      go_simp
      with_reducible rfl
     try simp only[V]
    refine jV (l:=[]) rfl (fun w5 N=>?_);have F:=O (I M (I d N));clear d N C q P;go_wp2;go_ret;exact⟨by rw[E,A,H1,H2];rfl,F⟩
   |false=>
    have A:=O hbad;clear hbad;cases him:pM y.s n2
    .have a5:=O him;clear him
     refine ic 37 [] [] [(0,true),(1,true),(2,true),(3,true),(4,true),(5,true),(6,false),(7,true),(8,true),(9,true),(10,true),(11,true),(12,true),(13,true),(14,true),(15,true),(16,true),(17,true),(18,false),(19,true),(20,true),(21,true),(22,true),(23,true),(24,true),(25,true),(26,true),(27,true),(28,true),(29,true),(30,true),(31,true),(32,true),(33,true),(34,true),(35,true),(36,true)] (by kernel_rfl) (by kernel_rfl) ⟨by simp,by simp,fun _ h=>by cases h⟩ (fun _ _ _ _ _ h=>h) (fun _ _ o _ _ h=>by cases o<;>exact h) ?_
     iterate 6
      refine gZ (v:=?_) rfl rfl (by rfl) ?_ ?_;rotate_left
      .intro y u
       have z7:=(u.cell (p:=⟨g,7,none⟩) hgl).trans S;go_simp
       with_reducible rfl
      try simp only[V]
     refine iK rfl rfl (fun x1 P K H=>?_);go_simp;have q:Below L L x1:=gJ (k:=1) P;refine(su x.l _ n sc _ (a4.go iD q) hn).mono ?_;rintro e Q ⟨i,C⟩;rw[A]at i;subst i;refine H _ _ C ?_;clear H K;have d:Below L L Q:=I q C;have r:g<Q.heap.size:=ab hgl d.size;have k7:=(d.cell (p:=⟨g,7,none⟩) hgl).trans S;have k3:=(d.cell (p:=⟨g,3,none⟩) hgl).trans c3;have B:b1<Q.heap.size:=ab hlt d.size;have kr:=jb Hr (gE d) hlt;have e0:=(d.cell (p:=⟨b1,off+j*22,none⟩) hlt).trans d0;have Kr:=O kr;have b2:=O d;clear kr C q P d c3 S d0
     iterate 2
      refine iy (v:=?_) rfl (by rfl) ?_ ?_;rotate_left
      .intro y
       go_simp
       with_reducible rfl
      try simp only[V]
     iterate 8
      refine gZ (v:=?_) rfl rfl (by rfl) ?_ ?_;rotate_left
      .intro y u
       have z7:=(u.cell (p:=⟨g,7,none⟩) r).trans k7;go_simp
       with_reducible rfl
      try simp only[V]
     refine pE rfl rfl (by rfl) (fun y u=>jb Kr (gE u) B) _ rfl rfl ?_
     try simp only[V]
     refine kH rfl (by rfl) (fun x2 a6 K H=>?_);go_simp;refine(BU y.s a2 n2 c2 _).mono ?_;rintro e w6 ⟨i,R⟩;rw[a5]at i;subst i;refine H _ _ R ?_;clear H K;have t:Below Q Q w6:=I a6 R;have a1:g<w6.heap.size:=ab r t.size;have a9:b1<w6.heap.size:=ab B t.size;have l7:=(t.cell (p:=⟨g,7,none⟩) r).trans k7;have l3:=(t.cell (p:=⟨g,3,none⟩) r).trans k3;have f0:=(t.cell (p:=⟨b1,off+j*22,none⟩) B).trans e0;have b3:=O t;clear R a6 t k3 k7 e0
     iterate 2
      refine iy (v:=?_) rfl (by rfl) ?_ ?_;rotate_left
      .intro y
       go_simp
       with_reducible rfl
      try simp only[V]
     iterate 14
      refine nh rfl (by rfl) ?_
      try simp only[V]
     iterate 2
      refine iy (v:=?_) rfl (by rfl) ?_ ?_;rotate_left
      .intro y
       go_simp
       with_reducible rfl
      try simp only[V]
     refine jV (l:=[]) rfl (fun w5 N=>?_);have F:=O (I M (I b2 (I b3 N)));clear N;go_wp2;go_ret;exact⟨by rw[E,A,H1,H2,W,a5];rfl,F⟩
    .have a5:=O him;clear him
     refine ic 37 [] [] [(0,true),(1,true),(2,true),(3,true),(4,true),(5,true),(6,false),(7,true),(8,true),(9,true),(10,true),(11,true),(12,true),(13,true),(14,true),(15,true),(16,true),(17,true),(18,false),(19,true),(20,true),(21,true),(22,true),(23,true),(24,true),(25,true),(26,true),(27,true),(28,true),(29,true),(30,true),(31,true),(32,true),(33,true),(34,true),(35,true),(36,true)] (by kernel_rfl) (by kernel_rfl) ⟨by simp,by simp,fun _ h=>by cases h⟩ (fun _ _ _ _ _ h=>h) (fun _ _ o _ _ h=>by cases o<;>exact h) ?_
     iterate 6
      refine gZ (v:=?_) rfl rfl (by rfl) ?_ ?_;rotate_left
      .intro y u
       have z7:=(u.cell (p:=⟨g,7,none⟩) hgl).trans S;go_simp
       with_reducible rfl
      try simp only[V]
     refine iK rfl rfl (fun x1 P K H=>?_);go_simp;have q:Below L L x1:=gJ (k:=1) P;refine(su x.l _ n sc _ (a4.go iD q) hn).mono ?_;rintro e Q ⟨i,C⟩;rw[A]at i;subst i;refine H _ _ C ?_;clear H K;have d:Below L L Q:=I q C;have r:g<Q.heap.size:=ab hgl d.size;have k7:=(d.cell (p:=⟨g,7,none⟩) hgl).trans S;have k3:=(d.cell (p:=⟨g,3,none⟩) hgl).trans c3;have B:b1<Q.heap.size:=ab hlt d.size;have kr:=jb Hr (gE d) hlt;have e0:=(d.cell (p:=⟨b1,off+j*22,none⟩) hlt).trans d0;have Kr:=O kr;have b2:=O d;clear kr C q P d c3 S d0
     iterate 2
      refine iy (v:=?_) rfl (by rfl) ?_ ?_;rotate_left
      .intro y
       go_simp
       with_reducible rfl
      try simp only[V]
     iterate 8
      refine gZ (v:=?_) rfl rfl (by rfl) ?_ ?_;rotate_left
      .intro y u
       have z7:=(u.cell (p:=⟨g,7,none⟩) r).trans k7;go_simp
       with_reducible rfl
      try simp only[V]
     refine pE rfl rfl (by rfl) (fun y u=>jb Kr (gE u) B) _ rfl rfl ?_
     try simp only[V]
     refine kH rfl (by rfl) (fun x2 a6 K H=>?_);go_simp;refine(BU y.s a2 n2 c2 _).mono ?_;rintro e w6 ⟨i,R⟩;rw[a5]at i;subst i;refine H _ _ R ?_;clear H K;have t:Below Q Q w6:=I a6 R;have a1:g<w6.heap.size:=ab r t.size;have a9:b1<w6.heap.size:=ab B t.size;have l7:=(t.cell (p:=⟨g,7,none⟩) r).trans k7;have l3:=(t.cell (p:=⟨g,3,none⟩) r).trans k3;have f0:=(t.cell (p:=⟨b1,off+j*22,none⟩) B).trans e0;have b3:=O t;clear R a6 t k3 k7 e0
     iterate 2
      refine iy (v:=?_) rfl (by rfl) ?_ ?_;rotate_left
      .intro y
       go_simp
       with_reducible rfl
      try simp only[V]
     iterate 14
      refine gZ (v:=?_) rfl rfl (by rfl) ?_ ?_;rotate_left
      .intro y u
       have z7:=(u.cell (p:=⟨g,7,none⟩) a1).trans l7;have z3:=(u.cell (p:=⟨g,3,none⟩) a1).trans l3;have z0:=(u.cell (p:=⟨b1,off+j*22,none⟩) a9).trans f0;go_simp
       with_reducible rfl
      try simp only[V]
     iterate 2
      refine iy (v:=?_) rfl (by rfl) ?_ ?_;rotate_left
      .intro y
       go_simp
       with_reducible rfl
      try simp only[V]
     refine jV (l:=[]) rfl (fun w5 N=>?_);have F:=O (I M (I b2 (I b3 N)));clear N;go_wp2;go_ret;exact⟨by rw[E,A,H1,H2,W,a5,b0];rfl,F⟩
def oC(w:World)(b:Nat)(ks:List ByteArray):Prop:=
 ∃c a,w.heap[b]? =some (.map c a)/\c.toList.map (fun e=>(e.key,e.val))=ks.map (fun s=>(Value.string s,Value.bool true))
def rx(s:ByteArray)(ks:List ByteArray):Bool:=ks.any fun k=>s==k
def tN(s):∀(l:List MapEntry)(ks:List ByteArray)(i:Nat),l.map (fun e=>(e.key,e.val))=ks.map (fun s=>(Value.string s,Value.bool true))->
 (rx s ks=true/\ ∃j,Instr.findNow .string (.string s) l i=some (some (j,.bool true)))\/(rx s ks=false/\Instr.findNow .string (.string s) l i=some none)
 |[],[],i,_=>Or.inr ⟨by simp[rx],rfl⟩
 |[],k::ks,i,h=>by cases h
 |e::l,[],i,h=>by cases h
 |e::l,k::ks,i,h=>by
  simp only[aN,ei,dK]at h;obtain⟨⟨h1,h2⟩,h3⟩:=h;unfold Instr.findNow;rw[h1,h2];simp only[Instr.sameNow];cases e:(s==k)
  .obtain ⟨a,b⟩|⟨a,b⟩:=tN s l ks (i+1) h3
   .exact Or.inl ⟨by unfold rx at*;rw[eN,e,a];rfl,b⟩
   .exact Or.inr ⟨by unfold rx at*;rw[eN,e,a];rfl,b⟩
  .exact Or.inl ⟨by unfold rx;rw[eN,e];rfl,i,rfl⟩
def tO{P t kt e}(l:P.underlying t=some (.map kt e))(a:P.underlying kt=some .string){w}(n:(zeroValue e).run P w=.ok (.bool false) w){b ks}(h:oC w b ks)(s):
 (Instr.lookup t (.map (some b)) (.string s) false).run P w=.ok (.bool (rx s ks)) w:=by
 obtain⟨m,f,g,k⟩:=h
 have i:∀b,(Instr.checkKey b 10000 kt (.string s)).run P w=.ok () w:=fun b=>by
  rw[show(10000:Nat)=9999+1 from rfl,Instr.checkKey,bR,bQ a];rfl
 obtain ⟨c,j,d⟩|⟨c,d⟩:=tN s m.toList ks 0 k
 .simp[Instr.lookup,Instr.findKey,bR,bQ l,bQ a,MapKept.run_getObj_map g,i,d,c]
 .simp[Instr.lookup,Instr.findKey,bR,bQ l,bQ a,MapKept.run_getObj_map g,i,d,c,n]
def zt{P t kt e}(n:P.underlying t=some (.map kt e))(g:P.underlying kt=some .string){w b ks}(h:oC w b ks)(s)(m:rx s ks=false):
 ∃w',(Instr.mapUpdate t (.map (some b)) (.string s) (.bool true)).run P w=.ok () w'/\oC w' b (ks++[s])/\w.grownBy w' (some b):=by
 obtain⟨d,a,f,c⟩:=h
 have l:(Instr.checkKey false 10000 kt (.string s)).run P w=.ok () w:=by
  rw[show(10000:Nat)=9999+1 from rfl,Instr.checkKey,bR,bQ g];rfl
 obtain ⟨i,_⟩|⟨i,o⟩:=tN s d.toList ks 0 c
 .rw[m]at i;cases i
 .refine⟨{w with heap:=w.heap.setIfInBounds b (.map (d.push {key:=.string s,val:=.bool true,born:=a}) (a+1))},?_,?_,?_⟩
  .simp[Instr.mapUpdate,Instr.findKey,bR,bQ n,bQ g,MapKept.run_getObj_map f,l,o,MapKept.run_setObj_map _ f]
  .have hlt:=TK f
   exact⟨d.push {key:=.string s,val:=.bool true,born:=a},a+1,by simp[hlt],by simp[c]⟩
  .refine⟨rfl,rfl,rfl,by simp,fun k g j=>?_⟩
   show(w.heap.setIfInBounds b _)[k]? =_
   rw[fD (fun e=>j (by rw[e]))]
def qV{ops c o a}{Q:Exit->Act->World->Prop}{w t kt e}(p:prog.underlying t=some (.map kt e))(i:prog.underlying kt=some .string)(f:o.guard=none)(m x v)(k:o.op=.mapUpdate t m x v){b ks}(h:oC w b ks)(s)(n:rx s ks=false)(j:a.eval m=.map (some b))(r:a.eval x=.string s)(q:a.eval v=.bool true)(g:∀w',oC w' b (ks++[s])->w.grownBy w' (some b)->wpList prog ops Q c (a.put o.dst undef) w'):wpList prog ops Q (o::c) a w:=by
 obtain⟨w',l,h1,h2⟩:=zt p i h s n
 refine eT f fun K d=>?_
 unfold Oper.wp;simp[execOp,k,j,r,q,l,Result.andThen];exact d _ _ (g w' h1 h2)
def oC.block{w w' b ks}(h:oC w b ks)(d:w'.heap[b]? =w.heap[b]?):oC w' b ks:=by
 obtain⟨c,a,h1,h2⟩:=h;exact⟨c,a,d.trans h1,h2⟩
def QO:pB ByteArray:=fun _ _ s cs=>cs=[.string s]/\s.size<=9223372036854775807
def Ev:kR 1 QO where
 len:=by rintro S w x cs ⟨rfl,_⟩;rfl
 kept:=by rintro S T w w' x cs ⟨e,h⟩ b c;exact⟨e,h⟩
 one:=by rintro S w x cs ⟨rfl,_⟩ v a;simp only[aK]at a;subst a;rfl
def od(ks:List ByteArray)(i:Nat):Bool:=match ks[i]? with
 |some s=>!rx s (ks.take i)&&kI s
 |none=>false
def vV(ks:List ByteArray):Bool:=(List.range ks.length).all (od ks)
def Tryz.zeroBool(w):(zeroValue 4).run prog w=.ok (.bool false) w:=by kernel_rfl
def A5(ks a n c w)(h:RR QO 1 (fun b=>b<w.heap.size) w a n c ks)(hn:n<=1000000):
 Calls prog 168 #[Z a n c] w (iZ w (.bool (vV ks))):=by
 have H:=O h;have d:=h.1;clear h;have T:=@run_makeMap prog
 go_enter func168,ntmps168
 go_wp2_with fail
 go_loopw [9] (fun v wr=>∃k:Nat,k<=n/\v=.int .i64 (k:Int)/\oC wr w (ks.take k)/\(List.range k).all (od ks)=true/\Below w w wr) (fun v _=>n-(intOf v).toNat)
 case atStart=>exact⟨0,by omega,rfl,⟨#[],0,TL w _,rfl⟩,rfl,gY (TH _ _)⟩
 case round=>
  obtain⟨k,X,rfl,K,M,C⟩:=hrel;have B:=O M;have g:=O C;have z:=O K;obtain⟨W,x,o,_⟩:=K;have L:=TK o;clear M C o
  by_cases j:k<n
  .obtain⟨b,off,s,cs,rfl,hlt,u,⟨rfl,P⟩,N⟩:=(H.go Ev g).at j
   have S:=N 0 _ rfl;rw[bE,dn]at S;have F:=tO underlying126 underlying9 (Tryz.zeroBool wr) z s
   have E:od ks k=(!rx s (ks.take k)&&kI s):=by unfold od;rw[u]
   have t:=O E;have Q:=O u;clear N E u;cases h1:rx s (ks.take k)
   .cases h2:kI s
    all_goals
     rw[h1]at F;have i:=O h1;have r:=O h2;clear h1 h2
     go_wp2_with(first
      |((with_reducible refine(ze s _ P).mono ?_);rintro e w2 ⟨D,l⟩;rw[r]at D;subst D;have f:=O l;clear l)
      |(refine qV underlying126 underlying9 rfl (.tmp 21) (.tmp 22) _ rfl (z.block (f.block _ L)) s i rfl rfl rfl ?_;intro w3 p m;have A:=O p;have y:=O ((I g f).grown m (I g f).size (fun q R=>(by cases R;exact aa _)));clear p m))
    .go_ret
     refine⟨?_,I g f⟩;unfold vV;rw[d,jK j (t.trans (by rw[i,r];rfl))];rfl
    .go_roundw
     case rel=>exact⟨k+1,by omega,by go_num,by rw[mn Q];exact A,jl B (t.trans (by rw[i,r];rfl)),y⟩
     case measure=>simp[intOf];omega
   .rw[h1]at F
    have i:=O h1;clear h1;go_wp2;go_ret;refine⟨?_,g⟩;unfold vV;rw[d,jK j (t.trans (by rw[i];rfl))];rfl
  .obtain rfl:k=n:=by omega
   go_wp2;go_ret;refine⟨?_,g⟩;unfold vV;rw[d,B];rfl
def lr(l:List gM)(c:jd):Bool:=match tu l c.zs (c.zs.length/3)with
 |none=>false
 |some _=>decide (c.zs.length/3<=12)
def jo(l:List gM)(cf:List jd):Bool:=cf.all (lr l)&&decide (cf.length<=4)&&vV (cf.map jd.nm)
def kA{ops d o a}{Q:Exit->Act->World->Prop}{W α}{R:pB α}{k:Nat}(ok:kR k R){T e:TypeId}{z:Value}{c:Nat}(f:prog.underlying e=some (.slice T))(n:(prog.info? T).map (fun i=>(i.zero,i.size,i.bytes))=some (some z,k,c))(r:z.cells.size=k)(p:0<k)(j:c<=10000)(m:o.guard=none)(s x:Operand)(q:o.op=.call {callee:=.builtin .append,args:=#[s,x],argTypes:=#[e,e]})(base:Nat)(w:World)(v:Value)(l:List α)(y:α)(cs:List Value)(N:Nat)(hN:l.length=N)(hs:a.eval s=v)(hrow:jD R k T base w v l)(hW:W=w.alloc (.cells cs.toArray T))(hx:a.eval x=.slice (J (w.heap.size)) 1 1)(hy:R (fun b=>base<=b/\b<w.heap.size/\v.ownBlock≠some b) w y cs)(hlen:l.length<=1000000)(hbase:base<=w.heap.size)(h:∀g cap w',jD R k T base w' (.slice (J g) (N+1) cap) (l++[y])->(∀B w0,B<=base->Below B w0 w->Below B w0 w')->gN (fun b=>b<w.heap.size/\v.ownBlock≠some b) w w'->w.heap.size<=w'.heap.size->wpList prog ops Q d (a.put o.dst (.slice (J g) (N+1) cap)) w'):
 wpList prog ops Q (o::d) a W:=by
 subst hN;exact qq ok f n r p j m s x q base w v l y cs hs hrow hW hx hy hlen hbase h
def Tryz.infoString1:(prog.info? 9).map (fun i=>(i.zero,i.size,i.bytes))=some (some (.string ik),1,16):=by kernel_rfl
def BV{α:Type}{f:α->Bool}{l:List α}{k x}(h:l[k]? =some x)(h0:(l.take k).all f=true):(l.take (k+1)).all f=f x:=by
 rw[mn h,er,h0];simp
def Ew{α:Type}{f:α->Bool}{l:List α}{k:Nat}{x}(h:l[k]? =some x)(h0:f x=false):l.all f=false:=by
 rw[dw];intro a;have:=an.1 a x (aL h);rw[h0]at this;cases this
def C3(x f v s k g T w)(hg:hU w g T x f v s k)(hf:RR jE 22 (fun b=>b<w.heap.size) w s.a s.n s.c x.l)(hn:s.n<=1000000)(hc:RR oB 2 (fun b=>b<w.heap.size) w k.a k.n k.c x.cf)(hk:k.n<=1000000)(hp:jY w w):
 Calls prog 126 #[U g] w (iZ w (.bool (jo x.l x.cf))):=by
 have Hg:=O hg;have Hf:=O hf;have Hc:=O hc;have Hp:=O hp;have j:=hc.1;clear hg hf hc hp;obtain⟨sa,n,sc⟩:=s;obtain⟨ka,m,kc⟩:=k;simp only at*;obtain⟨_,_,_,_,_,_,_,_,c8⟩:=Hg.cells;have hl:=Hg.lt
 go_enter func126,ntmps126
 go_wp2_with fail
 go_loopw [3,14] (fun nv iv wr=>∃i:Nat,i<=m/\iv=.int .i64 (i:Int)/\jD QO 1 9 w wr nv ((x.cf.take i).map jd.nm)/\(x.cf.take i).all (lr x.l)=true/\Below w w wr) (fun _ iv _=>m-(intOf iv).toNat)
 case atStart=>exact⟨0,by omega,rfl,jD.nil _ _ _ _ _,rfl,TH _ _⟩
 case round=>
  clear c8;obtain⟨i,hi,rfl,ho,ha,S⟩:=hrel;have Ho:=O ho;have B:=O S;have Ha:=O ha;clear ho S ha;have hgl:g<wr.heap.size:=ab hl B.size
  by_cases c4:i<m
  .obtain⟨b1,off,y,cs,rfl,hlt,hy,⟨a2,E,c2,rfl,hz,c9,c3,a9⟩,hr⟩:=Hc.at c4
   have x0:=(B.cell (p:=⟨b1,off+i*2+0,none⟩) hlt).trans (hr 0 _ rfl);have x1:=(B.cell (p:=⟨b1,off+i*2+1,none⟩) hlt).trans (hr 1 _ rfl);rw[bE]at x0;have b2:=mU hz;have Hy:=O hy;have Hz:=O (hz.ir (fun _ h=>h));have b7:=O b2;have b6:=O a9;clear hr hy hz b2 c3 a9
   have b0:((x.cf.take i).map jd.nm).length=i:=by rw[aU,bn,j];omega
   have a5:=O b0;clear b0;have C:Below wr wr (wr.alloc (.cells #[y.nm,Z a2 E c2] 75)):=gY (TH _ _);have r:=O C;clear C;have t:=TL wr (.cells #[y.nm,Z a2 E c2] 75);have L:=O t;clear t
   go_upto_region 5 with fail
   refine gI (fun wx=>wx.heap[wr.heap.size]? =some (.cells #[y.nm,Z a2 E c2] 75 (0,0))/\Below wr wr wx) ⟨L,r⟩ ?_;clear L r;rintro w2 ⟨t,C⟩;have d0:w2.cell? (J (wr.heap.size))=some (.string y.nm):=(gA t 0).trans rfl;have c5:=TK t;have L:=O t;have r:=O C;clear t C
   go_upto_region 6 with(refine kA Ev underlying52 Tryz.infoString1 rfl (by omega) (by omega) rfl (.tmp 18) (.tmp 21) rfl w w2 u3 ((x.cf.take i).map jd.nm) y.nm [y.nm] i a5 rfl (Ho.go Ev r) rfl rfl ⟨rfl,b6⟩ (by rw[a5];omega) (af B.size r.size) ?_;intro g3 d3 w3 b3 a8 W b4)
   have b8:=O b3;have F:=O (a8 _ _ (aa _) (I B r));have c0:=O (af r.size b4);have a6:=O ((W wr ⟨c5,Ho.fresh (aa _)⟩).trans L);have d4:=O W;clear b3 a8 W b4;have c6:wr.heap.size<w3.heap.size:=TK a6
   have a3:g<w3.heap.size:=by have:=c0.out;omega
   have d1:w3.cell? ⟨wr.heap.size,1,none⟩=some (.slice a2 E c2):=(gA a6 1).trans rfl;obtain⟨_,_,_,_,_,_,_,c7,_⟩:=(Hg.go F).cells;refine ic 13 [] [] [(0,true),(1,true),(2,true),(3,true),(4,true),(5,true),(6,true),(7,false),(8,true),(9,true),(10,true),(11,true),(12,true)] (by kernel_rfl) (by kernel_rfl) ⟨by simp,by simp,fun _ h=>by cases h⟩ (fun _ _ _ _ _ h=>h) (fun _ _ o _ _ h=>by cases o<;>exact h) ?_
   iterate 7
    refine gZ (v:=?_) rfl rfl (by rfl) ?_ ?_;rotate_left
    .intro y hy
     have z7:=(hy.cell (p:=⟨g,7,none⟩) a3).trans c7;have z1:=(hy.cell (p:=⟨wr.heap.size,1,none⟩) c6).trans d1;go_simp
     with_reducible rfl
    try simp only[V]
   refine iK rfl rfl (fun x1 X K hK=>?_);go_simp;have d:Below w3 w3 x1:=gJ (k:=1) X;have Q:=O (I F d)
   have D:∀b,lr x.l y=b->(b=true->(x.cf.take (i+1)).all (lr x.l)=true)/\(b=false->jo x.l x.cf=false):=by
    intro b S;refine⟨fun e=>(BV Hy Ha).trans (S.trans e),fun e=>?_⟩;unfold jo;rw[Ew Hy (S.trans e)];rfl
   have M:lr x.l y=(match tu x.l y.zs E with|none=>false|some _=>decide (E<=12)):=by unfold lr;rw[<- b7]
   have u:=O D;have A:=O M;clear D M;refine(Es x.l y.zs sa a2 n sc E c2 _ (Hf.go iD Q) hn (Hz.go Q) c9 (Hp.go Q)).mono ?_;rintro e w4 (⟨h1,rfl,q⟩|⟨l',g',m',c',h1,rfl,d2,q⟩)
   .refine hK _ _ q ?_
    clear hK K;have P:=O (I F (I d q));clear q X d
    iterate 5
     refine iy (v:=?_) rfl (by rfl) ?_ ?_;rotate_left
     .intro y
      go_simp
      with_reducible rfl
     try simp only[V]
    refine jV (l:=[]) rfl (fun w5 z=>?_);have H:=O (I P z);clear z;go_wp2;go_ret;refine⟨?_,H⟩;rw[(u false (by rw[A,h1])).2 rfl];rfl
   .refine hK _ _ q ?_
    clear hK K;have a0:=O (I d q);have P:=O (I F (I d q));clear q X d d2
    by_cases c1:E<=12
    all_goals
     have a4:=O c1
     iterate 5
      refine iy (v:=?_) rfl (by rfl) ?_ ?_;rotate_left
      .intro y
       go_simp
       with_reducible rfl
      try simp only[V]
     refine jV (l:=[]) rfl (fun w5 z=>?_);have a1:=O (I a0 z);have H:=O (I P z);clear z
     go_wp2_with fail
    .go_roundw
     case rel=>exact⟨i+1,by omega,by go_num,by rw[mn Hy,aT];exact b8.go Ev a1,(u true (by rw[A,h1];simp[a4.out])).1 rfl,H⟩
     case measure=>simp[intOf];omega
    .go_ret
     refine⟨?_,H⟩;rw[(u false (by rw[A,h1];simp[a4.out])).2 rfl];rfl
  .obtain rfl:i=m:=by omega
   obtain⟨_,_,_,_,_,_,_,_,c8⟩:=(Hg.go B).cells;have N:=Ho.out;have R:=Ha.out;rw[<- j,bf]at N R
   have D:jo x.l x.cf=(decide (i<=4)&&vV (x.cf.map jd.nm)):=by unfold jo;rw[R,j];rfl
   have u:=O D;clear D
   have hv:∃a c,u3=.slice a i c:=by
    obtain ⟨rfl,e⟩|⟨g,cap,rfl,_,_,_,_,_⟩:=N.form
    .have:i=0:=by rw[<- j];have:=ai List.length e;simpa using this
     subst this;exact⟨none,0,rfl⟩
    .exact⟨_,_,by rw[aU,j]⟩
   obtain⟨av,cv,rfl⟩:=hv;have b9:=O (N.rr Ev);clear N R
   by_cases h4:i<=4
   all_goals
    go_wp2_with((with_reducible refine(A5 (x.cf.map jd.nm) av i cv _ b9.out hk).mono ?_);rintro e w2 ⟨he,a7⟩;subst he;have b5:=O a7;clear a7)
    go_ret
   .exact⟨by rw[u];simp[h4],I B b5⟩
   .exact⟨by rw[u];simp[h4],B⟩
end Go.Proofs.YtgohdcccfkjooaaGreatDoor
