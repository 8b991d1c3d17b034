import Derived.Test.YtlnbjinneegciabGreatDoorTAL
import Derived.Test.YtlnbjinneegciabGreatDoorTAK
import Derived.Test.YtlnbjinneegciabGreatDoorTAM
namespace Go.Proofs.YtlnbjinneegciabGreatDoor
set_option linter.all false
set_option maxRecDepth 100000
set_option maxHeartbeats 3200000
open Go.Proofs.Tryz Go.RowKit
def pe(l:List gM):Bool:=match l[l.length-1]? with
 |some x=>pM x.s (x.zs.length/3)
 |none=>false
def kU(l:List gM)(i:Int):Int:=match l[i.toNat]? with
 |some x=>x.s.kind
 |none=>0
def iW(stop:Int)(l:List gM):Bool:=bt (l.length:Int) 2 16&&bt stop 0 ((l.length:Int)-2)&& !uM l&&pe l&& (kU l stop !=3)
def A4(x:gR)(f v s k:iJ)(g:Nat)(T:TypeId)(w:World)(hg:kr w g T x f v s k)(hf:RR jE 22 (fun b=>b<w.heap.size) w s.a s.n s.c x.l)(hn:s.n<=1000000):
 Calls prog 69 #[U g] w (iZ w (.bool (iW x.stop x.l))):=by
 have Hg:=O hg;have Hf:=O hf;have a7:=hf.1;clear hg hf;obtain⟨sa,n,sc⟩:=s;simp only at*;obtain⟨_,_,_,c3,_,_,_,R,_⟩:=Hg.cells;have hl:=Hg.lt
 have a6:iW x.stop x.l=(bt (n:Int) 2 16&&bt x.stop 0 ((n:Int)-2)&& !uM x.l&&pe x.l&& (kU x.l x.stop !=3)):=by unfold iW;rw[a7]
 have D:=O a6;clear a6;have d3:IntKind.i64.wrap ((n:Int)-2)=(n:Int)-2:=TM _ (by omega)
 cases h1:bt (n:Int) 2 16 with
 |false=>
  have H1:=O h1;clear h1;go_enter func69,ntmps69
  go_wp2_with((with_reducible refine(jc (n:Int) 2 16 _).mono ?_);rintro e w2 ⟨i,Hb:HQ _⟩;rw[H1]at i;subst i)
  go_ret;exact⟨by rw[D,H1];rfl,Hb⟩
 |true=>
  have d1:2<=(n:Int)/\(n:Int)<=16:=by simpa[bt]using h1
  have H1:=O h1;clear h1
  cases h2:bt x.stop 0 ((n:Int)-2)with
  |false=>
   have H2:=O h2;clear h2;go_enter func69,ntmps69
   go_wp2_with(first
    |((with_reducible refine(jc (n:Int) 2 16 _).mono ?_);rintro e w2 ⟨i,hb⟩;rw[H1]at i;subst i;have Hb:=O hb;clear c3 R;have c3:=(hb.cell (p:=⟨g,3,none⟩) hl).trans (Hg.cells).2.2.2.1;clear hb)
    |((with_reducible refine(jc x.stop 0 ((n:Int)-2) _).mono ?_);rintro e H ⟨i,L:HQ _⟩;rw[H2]at i;subst i))
   go_ret;exact⟨by rw[D,H1,H2];rfl,I Hb L⟩
  |true=>
   have b4:0<=x.stop/\x.stop<=(n:Int)-2:=by simpa[bt]using h2
   have H2:=O h2;clear h2;obtain⟨m,hm⟩:∃m,n=m+1:=⟨n-1,by omega⟩;obtain⟨j,hj⟩:∃j:Nat,x.stop=(j:Int):=⟨x.stop.toNat,by omega⟩
   have b9:m<n:=by omega
   have b8:j<n:=by omega
   have d2:IntKind.i64.wrap ((n:Int)-1)=(m:Int):=(TM _ (by omega)).trans (by omega);have Hm:=O hm;have Hj:=O hj;have c5:=O b4;clear hm hj b4;go_enter func69,ntmps69
   go_upto_region 5 with(first
    |((with_reducible refine(jc (n:Int) 2 16 _).mono ?_);rintro e w2 ⟨i,hb⟩;rw[H1]at i;subst i;have Hb:=O hb;clear c3 R;have c3:=(hb.cell (p:=⟨g,3,none⟩) hl).trans (Hg.cells).2.2.2.1;clear hb)
    |((with_reducible refine(jc x.stop 0 ((n:Int)-2) _).mono ?_);rintro e H ⟨i,hb⟩;rw[H2]at i;subst i;have L:=O (I Hb hb);clear hb))
   have hgl:g<H.heap.size:=eb hl L.size;obtain⟨_,_,_,c3,_,_,_,R,_⟩:=(Hg.go L).cells;rw[Hj]at c3;have a1:=O (Hf.go iD L);obtain⟨b1,off,y,cs,rfl,hlt,u,⟨a2,n2,c2,rfl,hz,c1,b6,b7⟩,hr⟩:=a1.at b9;obtain⟨c6,c4,z,c9,e',_,b5,⟨a3,n3,c8,rfl,c0,_,_,_⟩,b3⟩:=a1.at b8;cases e'
   have X:pe x.l=pM y.s n2:=by unfold pe;rw[a7,show n-1=m by(have:=Hm.out;omega),u];simp only;rw[<- mU hz]
   have W:kU x.l x.stop=z.s.kind:=by unfold kU;rw[Hj,aI,b5]
   have S:=O X;have a9:=O W;have Hr:=O hr
   have d0:H.cell? ⟨b1,off+j*22,none⟩=some (.int .i64 z.s.kind):=by have:=b3 0 _ rfl;rwa[bE]at this
   clear X W hr b3 hz c0 u b5 b6 b7
   cases hbad:uM x.l with
   |true=>
    have A:=O hbad;clear hbad;refine ic 37 [] [] [(0,true),(1,true),(2,true),(3,true),(4,true),(5,true),(6,false),(7,true),(8,true),(9,true),(10,true),(11,true),(12,true),(13,true),(14,true),(15,true),(16,true),(17,true),(18,true),(19,true),(20,true),(21,true),(22,true),(23,true),(24,true),(25,true),(26,true),(27,true),(28,true),(29,true),(30,true),(31,true),(32,true),(33,true),(34,true),(35,true),(36,true)] (by kernel_rfl) (by kernel_rfl) ⟨by simp,by simp,fun _ h=>by cases h⟩ (fun _ _ _ _ _ h=>h) (fun _ _ o _ _ h=>by cases o<;>exact h) ?_
    iterate 6
     refine gZ (v:=?_) ?_ ?_;rotate_left
     .intro y u
      have z7:=(u.cell (p:=⟨g,7,none⟩) hgl).trans R;go_simp;rfl
     try simp only[V]
    refine iK (fun x1 N K F=>?_);go_simp;have q:Below H H x1:=gJ (k:=1) N;refine(su x.l _ n sc _ (a1.go iD q) hn).mono ?_;rintro e P ⟨i,C⟩;rw[A]at i;subst i;refine F _ _ C ?_;clear F K;have d:=I q C
    iterate 2
     refine iy (v:=?_) ?_ ?_;rotate_left
     .intro y
      go_simp;rfl
     try simp only[V]
    iterate 10
     refine nh rfl (by rfl) ?_;try simp only[V]
    iterate 2
     refine iy (v:=?_) ?_ ?_;rotate_left
     .intro y
      go_simp;rfl
     try simp only[V]
    iterate 14
     refine nh rfl (by rfl) ?_;try simp only[V]
    iterate 2
     refine iy (v:=?_) ?_ ?_;rotate_left
     .intro y
      go_simp;rfl
     try simp only[V]
    refine jV (l:=[]) rfl (fun w5 M=>?_);have E:=O (I L (I d M));clear d M C q N;go_wp2;go_ret;exact⟨by rw[D,A,H1,H2];rfl,E⟩
   |false=>
    have A:=O hbad;clear hbad;cases him:pM y.s n2
    .have a4:=O him;clear him
     refine ic 37 [] [] [(0,true),(1,true),(2,true),(3,true),(4,true),(5,true),(6,false),(7,true),(8,true),(9,true),(10,true),(11,true),(12,true),(13,true),(14,true),(15,true),(16,true),(17,true),(18,false),(19,true),(20,true),(21,true),(22,true),(23,true),(24,true),(25,true),(26,true),(27,true),(28,true),(29,true),(30,true),(31,true),(32,true),(33,true),(34,true),(35,true),(36,true)] (by kernel_rfl) (by kernel_rfl) ⟨by simp,by simp,fun _ h=>by cases h⟩ (fun _ _ _ _ _ h=>h) (fun _ _ o _ _ h=>by cases o<;>exact h) ?_
     iterate 6
      refine gZ (v:=?_) ?_ ?_;rotate_left
      .intro y u
       have z7:=(u.cell (p:=⟨g,7,none⟩) hgl).trans R;go_simp;rfl
      try simp only[V]
     refine iK (fun x1 N K F=>?_);go_simp;have q:Below H H x1:=gJ (k:=1) N;refine(su x.l _ n sc _ (a1.go iD q) hn).mono ?_;rintro e P ⟨i,C⟩;rw[A]at i;subst i;refine F _ _ C ?_;clear F K;have d:Below H H P:=I q C;have r:g<P.heap.size:=eb hgl d.size;have k7:=(d.cell (p:=⟨g,7,none⟩) hgl).trans R;have k3:=(d.cell (p:=⟨g,3,none⟩) hgl).trans c3;have B:b1<P.heap.size:=eb hlt d.size;have Kr:=O (jb Hr (gE d) hlt);have e0:=(d.cell (p:=⟨b1,off+j*22,none⟩) hlt).trans d0;have b0:=O d;clear C q N d c3 R d0
     iterate 2
      refine iy (v:=?_) ?_ ?_;rotate_left
      .intro y
       go_simp;rfl
      try simp only[V]
     iterate 8
      refine gZ (v:=?_) ?_ ?_;rotate_left
      .intro y u
       have z7:=(u.cell (p:=⟨g,7,none⟩) r).trans k7;go_simp;rfl
      try simp only[V]
     refine pE rfl rfl (by rfl) (fun y u=>jb Kr (gE u) B) _ rfl rfl ?_;(try simp only[V]);refine kH rfl (by rfl) (fun x2 a5 K F=>?_);go_simp;refine(BU y.s a2 n2 c2 _).mono ?_;rintro e w6 ⟨i,Q⟩;rw[a4]at i;subst i;refine F _ _ Q ?_;clear F K;have t:Below P P w6:=I a5 Q;have a0:g<w6.heap.size:=eb r t.size;have a8:b1<w6.heap.size:=eb B t.size;have l7:=(t.cell (p:=⟨g,7,none⟩) r).trans k7;have l3:=(t.cell (p:=⟨g,3,none⟩) r).trans k3;have f0:=(t.cell (p:=⟨b1,off+j*22,none⟩) B).trans e0;have b2:=O t;clear Q a5 t k3 k7 e0
     iterate 2
      refine iy (v:=?_) ?_ ?_;rotate_left
      .intro y
       go_simp;rfl
      try simp only[V]
     iterate 14
      refine nh rfl (by rfl) ?_;try simp only[V]
     iterate 2
      refine iy (v:=?_) ?_ ?_;rotate_left
      .intro y
       go_simp;rfl
      try simp only[V]
     refine jV (l:=[]) rfl (fun w5 M=>?_);have E:=O (I L (I b0 (I b2 M)));clear M;go_wp2;go_ret;exact⟨by rw[D,A,H1,H2,S,a4];rfl,E⟩
    .have a4:=O him;clear him
     refine ic 37 [] [] [(0,true),(1,true),(2,true),(3,true),(4,true),(5,true),(6,false),(7,true),(8,true),(9,true),(10,true),(11,true),(12,true),(13,true),(14,true),(15,true),(16,true),(17,true),(18,false),(19,true),(20,true),(21,true),(22,true),(23,true),(24,true),(25,true),(26,true),(27,true),(28,true),(29,true),(30,true),(31,true),(32,true),(33,true),(34,true),(35,true),(36,true)] (by kernel_rfl) (by kernel_rfl) ⟨by simp,by simp,fun _ h=>by cases h⟩ (fun _ _ _ _ _ h=>h) (fun _ _ o _ _ h=>by cases o<;>exact h) ?_
     iterate 6
      refine gZ (v:=?_) ?_ ?_;rotate_left
      .intro y u
       have z7:=(u.cell (p:=⟨g,7,none⟩) hgl).trans R;go_simp;rfl
      try simp only[V]
     refine iK (fun x1 N K F=>?_);go_simp;have q:Below H H x1:=gJ (k:=1) N;refine(su x.l _ n sc _ (a1.go iD q) hn).mono ?_;rintro e P ⟨i,C⟩;rw[A]at i;subst i;refine F _ _ C ?_;clear F K;have d:Below H H P:=I q C;have r:g<P.heap.size:=eb hgl d.size;have k7:=(d.cell (p:=⟨g,7,none⟩) hgl).trans R;have k3:=(d.cell (p:=⟨g,3,none⟩) hgl).trans c3;have B:b1<P.heap.size:=eb hlt d.size;have Kr:=O (jb Hr (gE d) hlt);have e0:=(d.cell (p:=⟨b1,off+j*22,none⟩) hlt).trans d0;have b0:=O d;clear C q N d c3 R d0
     iterate 2
      refine iy (v:=?_) ?_ ?_;rotate_left
      .intro y
       go_simp;rfl
      try simp only[V]
     iterate 8
      refine gZ (v:=?_) ?_ ?_;rotate_left
      .intro y u
       have z7:=(u.cell (p:=⟨g,7,none⟩) r).trans k7;go_simp;rfl
      try simp only[V]
     refine pE rfl rfl (by rfl) (fun y u=>jb Kr (gE u) B) _ rfl rfl ?_;(try simp only[V]);refine kH rfl (by rfl) (fun x2 a5 K F=>?_);go_simp;refine(BU y.s a2 n2 c2 _).mono ?_;rintro e w6 ⟨i,Q⟩;rw[a4]at i;subst i;refine F _ _ Q ?_;clear F K;have t:Below P P w6:=I a5 Q;have a0:g<w6.heap.size:=eb r t.size;have a8:b1<w6.heap.size:=eb B t.size;have l7:=(t.cell (p:=⟨g,7,none⟩) r).trans k7;have l3:=(t.cell (p:=⟨g,3,none⟩) r).trans k3;have f0:=(t.cell (p:=⟨b1,off+j*22,none⟩) B).trans e0;have b2:=O t;clear Q a5 t k3 k7 e0
     iterate 2
      refine iy (v:=?_) ?_ ?_;rotate_left
      .intro y
       go_simp;rfl
      try simp only[V]
     iterate 14
      refine gZ (v:=?_) ?_ ?_;rotate_left
      .intro y u
       have z7:=(u.cell (p:=⟨g,7,none⟩) a0).trans l7;have z3:=(u.cell (p:=⟨g,3,none⟩) a0).trans l3;have z0:=(u.cell (p:=⟨b1,off+j*22,none⟩) a8).trans f0;go_simp;rfl
      try simp only[V]
     iterate 2
      refine iy (v:=?_) ?_ ?_;rotate_left
      .intro y
       go_simp;rfl
      try simp only[V]
     refine jV (l:=[]) rfl (fun w5 M=>?_);have E:=O (I L (I b0 (I b2 M)));clear M;go_wp2;go_ret;exact⟨by rw[D,A,H1,H2,S,a4,a9];rfl,E⟩
def oC(w:World)(b:Nat)(ks:List ByteArray):Prop:=
 ∃c a,w.heap[b]? =some (.map c a)/\c.toList.map (fun e=>(e.key,e.val))=ks.map (fun s=>(Value.string s,Value.bool true))
def rx(s:ByteArray)(ks:List ByteArray):Bool:=ks.any fun k=>s==k
def tN(s:ByteArray):∀(l:List MapEntry)(ks:List ByteArray)(i:Nat),l.map (fun e=>(e.key,e.val))=ks.map (fun s=>(Value.string s,Value.bool true))->
 (rx s ks=true/\ ∃j,Instr.findNow .string (.string s) l i=some (some (j,.bool true)))\/(rx s ks=false/\Instr.findNow .string (.string s) l i=some none)
 |[],[],i,_=>VS ⟨by simp[rx],rfl⟩
 |[],k::ks,i,h=>by cases h
 |e::l,[],i,h=>by cases h
 |e::l,k::ks,i,h=>by
  simp only[aN,ei,dK]at h;obtain⟨⟨h1,h2⟩,h3⟩:=h;unfold Instr.findNow;rw[h1,h2];simp only[Instr.sameNow];cases e:(s==k)
  .obtain ⟨a,b⟩|⟨a,b⟩:=tN s l ks (i+1) h3
   .exact VR ⟨by unfold rx at*;rw[eN,e,a];rfl,b⟩
   .exact VS ⟨by unfold rx at*;rw[eN,e,a];rfl,b⟩
  .exact VR ⟨by unfold rx;rw[eN,e];rfl,i,rfl⟩
def tO{P:Program}{t kt e:TypeId}(k:P.underlying t=some (.map kt e))(a:P.underlying kt=some .string){w:World}(m:(zeroValue e).run P w=.ok (.bool false) w){b:Nat}{ks:List ByteArray}(h:oC w b ks)(s:ByteArray):
 (Instr.lookup t (.map (some b)) (.string s) false).run P w=.ok (.bool (rx s ks)) w:=by
 obtain⟨l,f,hb,i⟩:=h
 have g:∀b,(Instr.checkKey b 10000 kt (.string s)).run P w=.ok () w:=fun b=>by
  rw[show(10000:Nat)=9999+1 from rfl,Instr.checkKey,bR,bQ a];rfl
 obtain ⟨c,j,d⟩|⟨c,d⟩:=tN s l.toList ks 0 i
 .simp[Instr.lookup,Instr.findKey,bR,bQ k,bQ a,MapKept.run_getObj_map hb,g,d,c]
 .simp[Instr.lookup,Instr.findKey,bR,bQ k,bQ a,MapKept.run_getObj_map hb,g,d,c,m]
def zt{P:Program}{t kt e:TypeId}(m:P.underlying t=some (.map kt e))(f:P.underlying kt=some .string){w:World}{b:Nat}{ks:List ByteArray}(h:oC w b ks)(s:ByteArray)(l:rx s ks=false):
 ∃w',(Instr.mapUpdate t (.map (some b)) (.string s) (.bool true)).run P w=.ok () w'/\oC w' b (ks++[s])/\w.grownBy w' (some b):=by
 obtain⟨d,a,hb,c⟩:=h
 have j:(Instr.checkKey false 10000 kt (.string s)).run P w=.ok () w:=by
  rw[show(10000:Nat)=9999+1 from rfl,Instr.checkKey,bR,bQ f];rfl
 obtain ⟨g,_⟩|⟨g,n⟩:=tN s d.toList ks 0 c
 .rw[l]at g;cases g
 .refine⟨{w with heap:=w.heap.setIfInBounds b (.map (d.push {key:=.string s,val:=.bool true,born:=a}) (a+1))},?_,?_,?_⟩
  .simp[Instr.mapUpdate,Instr.findKey,bR,bQ m,bQ f,MapKept.run_getObj_map hb,j,n,MapKept.run_setObj_map _ hb]
  .have hlt:=TK hb
   exact⟨d.push {key:=.string s,val:=.bool true,born:=a},a+1,by simp[hlt],by simp[c]⟩
  .refine⟨rfl,rfl,rfl,by simp,fun k f i=>?_⟩
   show(w.heap.setIfInBounds b _)[k]? =_
   rw[fD (fun e=>i (by rw[e]))]
def qV{ops:Array Oper}{c:List Oper}{o:Oper}{a:Act}{Q:Exit->Act->World->Prop}{w:World}{t kt e:TypeId}(p:prog.underlying t=some (.map kt e))(i:prog.underlying kt=some .string)(f:o.guard=none)(m x v:Operand)(k:o.op=.mapUpdate t m x v)
 {b:Nat}{ks:List ByteArray}(h:oC w b ks)(s:ByteArray)(n:rx s ks=false)(j:a.eval m=.map (some b))(r:a.eval x=.string s)(q:a.eval v=.bool true)
 (g:∀w',oC w' b (ks++[s])->w.grownBy w' (some b)->wpList prog ops Q c (a.put o.dst undef) w'):wpList prog ops Q (o::c) a w:=by
 obtain⟨w',l,h1,h2⟩:=zt p i h s n
 refine eT f fun K d=>?_
 unfold Oper.wp;simp[execOp,k,j,r,q,l,Result.andThen];exact d _ _ (g w' h1 h2)
def oC.block{w w':World}{b:Nat}{ks:List ByteArray}(h:oC w b ks)(hb:w'.heap[b]? =w.heap[b]?):oC w' b ks:=by
 obtain⟨c,a,h1,h2⟩:=h;exact⟨c,a,hb.trans h1,h2⟩
def QO:pB ByteArray:=fun _ _ s cs=>cs=[.string s]/\s.size<=9223372036854775807
def Xi:kR 1 QO where
 len:=by rintro S w x cs ⟨rfl,_⟩;rfl
 kept:=by rintro S T w w' x cs ⟨e,h⟩ b c;exact⟨e,h⟩
 one:=by rintro S w x cs ⟨rfl,_⟩ v a;simp only[aK]at a;subst a;rfl
def od(ks:List ByteArray)(i:Nat):Bool:=match ks[i]? with
 |some s=>!rx s (ks.take i)&&kI s
 |none=>false
def vV(ks:List ByteArray):Bool:=(List.range ks.length).all (od ks)
def Tryz.zeroBool(w:World):(zeroValue 4).run prog w=.ok (.bool false) w:=by kernel_rfl
def A5(ks:List ByteArray)(a:Option Addr)(n c:Nat)(w:World)(h:RR QO 1 (fun b=>b<w.heap.size) w a n c ks)(M:n<=1000000):
 Calls prog 106 #[Z a n c] w (iZ w (.bool (vV ks))):=by
 have H:=O h;have d:=h.1;clear h;have F:=@run_makeMap prog;go_enter func106,ntmps106;go_wp2
 go_loopw [9] (fun o wr=>∃k:Nat,k<=n/\o=.int .i64 (k:Int)/\oC wr w (ks.take k)/\(List.range k).all (od ks)=true/\Below w w wr) (fun o _=>n-(intOf o).toNat)
 case atStart=>exact⟨0,by omega,rfl,⟨#[],0,TL w _,rfl⟩,rfl,gY (TH _ _)⟩
 case round=>
  obtain⟨k,L,rfl,B,v:HQ _,Hb:HQ _⟩:=hrel;have t:=O B;obtain⟨K,p,j,_⟩:=B;have C:=TK j;clear j;by_cases i:k<n
  .obtain⟨b,off,s,cs,rfl,hlt,x:HQ _,⟨rfl,hsz⟩,hr⟩:=(H.go Xi Hb).at i
   have E:=hr 0 _ rfl;rw[bE,dn]at E;have A:=tO underlying162 underlying9 (Tryz.zeroBool wr) t s
   have z:od ks k=(!rx s (ks.take k)&&kI s):=by unfold od;rw[x]
   have m:=O z;clear hr z;cases h1:rx s (ks.take k)
   .cases h2:kI s
    all_goals
     rw[h1]at A;have g:=O h1;have l:=O h2;clear h1 h2
     go_wp2_with(first
      |((with_reducible refine(ze s _ hsz).mono ?_);rintro e N ⟨y,f:HQ _⟩;rw[l]at y;subst y)
      |(refine qV underlying162 underlying9 rfl (.tmp 21) (.tmp 22) _ rfl (t.block (f.block _ C)) s g rfl rfl rfl ?_;intro P (u:HQ _) hg3;have r:=O ((I Hb f).grown hg3 (I Hb f).size (fun q D=>(by cases D;exact ag _)));clear hg3))
    .go_ret
     refine⟨?_,I Hb f⟩;unfold vV;rw[d,jK i (m.trans (by rw[g,l];rfl))];rfl
    .go_roundw
     case rel=>exact⟨k+1,by omega,by go_num,by rw[mn x];exact u,jl v (m.trans (by rw[g,l];rfl)),r⟩
     case measure=>simp[intOf];omega
   .rw[h1]at A
    have g:=O h1;clear h1;go_wp2;go_ret;refine⟨?_,Hb⟩;unfold vV;rw[d,jK i (m.trans (by rw[g];rfl))];rfl
  .obtain rfl:k=n:=by omega
   go_wp2;go_ret;refine⟨?_,Hb⟩;unfold vV;rw[d,v];rfl
def uY(x:gR)(f v s k:iJ)(w:World)(hf:RR jE 22 (fun b=>b<w.heap.size) w s.a s.n s.c x.l)(hn:s.n<=1000000):
 Calls prog 55 #[ry x f v s k] w (iZ w (.bool (iW x.stop x.l))):=by
 have Hf:=O hf;have H:=hf.1;clear hf;obtain⟨sa,n,sc⟩:=s;simp only at*;have b2:=O (show kr (w.alloc (.cells (iw x f v ⟨sa,n,sc⟩ k).toArray 37)) w 37 x f v ⟨sa,n,sc⟩ k from TL w _);have a9:=O ((TH w w).alloc (ag _) (.cells (iw x f v ⟨sa,n,sc⟩ k).toArray 37))
 have Q:iW x.stop x.l=(bt (n:Int) 2 16&&bt x.stop 0 ((n:Int)-2)&& !uM x.l&&pe x.l&& (kU x.l x.stop !=3)):=by unfold iW;rw[H]
 have o:=O Q;clear Q;have e5:IntKind.i64.wrap ((n:Int)-2)=(n:Int)-2:=TM _ (by omega);unfold ry;go_enter func55,ntmps55;go_upto_region 1 with fail;refine gI (fun wx=>kr wx w 37 x f v ⟨sa,n,sc⟩ k/\Below w w wx) ⟨b2,a9⟩ ?_;clear b2 a9;rintro w1 ⟨hg,hb⟩;have L:=hg.lt;obtain⟨_,_,_,c3,_,_,_,P,_⟩:=hg.cells;have Hg:=O hg;have r:=O hb;clear hg hb;go_upto_region 2 with fail
 cases h1:bt (n:Int) 2 16 with
 |false=>
  have F:=O h1;clear h1
  go_wp2_with((with_reducible refine(ix (n:Int) 2 16 _).mono ?_);rintro e w2 ⟨d,hb⟩;rw[F]at d;subst d;have q:=O hb;clear hb)
  go_ret;exact⟨by rw[o,F];rfl,I r q⟩
 |true=>
  have e2:2<=(n:Int)/\(n:Int)<=16:=by simpa[bt]using h1
  have F:=O h1;clear h1
  cases h2:bt x.stop 0 ((n:Int)-2)with
  |false=>
   have N:=O h2;clear h2
   go_wp2_with(first
    |((with_reducible refine(ix (n:Int) 2 16 _).mono ?_);rintro e w2 ⟨d,hb⟩;rw[F]at d;subst d;replace c3:=(hb.cell (p:=⟨w.heap.size,3,none⟩) L).trans c3;have q:=O hb;clear hb)
    |((with_reducible refine(ix x.stop 0 ((n:Int)-2) _).mono ?_);rintro e w3 ⟨d,hb⟩;rw[N]at d;subst d;have t:=O hb;clear hb))
   go_ret;exact⟨by rw[o,F,N];rfl,I r (I q t)⟩
  |true=>
   have b9:0<=x.stop/\x.stop<=(n:Int)-2:=by simpa[bt]using h2
   have N:=O h2;clear h2;obtain⟨m,hm⟩:∃m,n=m+1:=⟨n-1,by omega⟩;obtain⟨j,hj⟩:∃j:Nat,x.stop=(j:Int):=⟨x.stop.toNat,by omega⟩
   have d2:m<n:=by omega
   have d1:j<n:=by omega
   have e3:IntKind.i64.wrap ((n:Int)-1)=(m:Int):=(TM _ (by omega)).trans (by omega);have Hm:=O hm;have Hj:=O hj;have d7:=O b9;clear hm hj b9;have a0:=O (Hf.go iD r);obtain⟨b1,off,y,cs,rfl,hlt,hy,⟨a2,n2,c2,rfl,hz,R,c6,b6⟩,hr⟩:=a0.at d2;obtain⟨d8,d6,z,e0,e',_,c0,⟨a3,n3,d9,rfl,d4,_,_,_⟩,b7⟩:=a0.at d1;cases e'
   have E:pe x.l=pM y.s n2:=by unfold pe;rw[H,show n-1=m by(have:=Hm.out;omega),hy];simp only;rw[<- mU hz]
   have D:kU x.l x.stop=z.s.kind:=by unfold kU;rw[Hj,aI,c0]
   have C:tr y=false->uM x.l=true:=fun e=>yI hy (by rw[e];rfl)
   have B:=O E;have A:=O D;have Hr:=O hr;have Hz:=O (hz.ir (fun _ h=>h));have b3:=O b6;have T:=O C
   have W:w1.cell? ⟨b1,off+j*22,none⟩=some (.int .i64 z.s.kind):=by have:=b7 0 _ rfl;rwa[bE]at this
   have D0:=O W;have C7:=O P;clear E D hr b7 hz d4 hy c0 c6 b6 C W P;cases hk3:(z.s.kind==3)
   case true=>
    have hk:kU x.l x.stop=3:=by rw[A];simpa using hk3
    have Hk:=O hk;clear hk
    go_wp2_with(first
     |((with_reducible refine(ix (n:Int) 2 16 _).mono ?_);rintro e w2 ⟨d,hb⟩;rw[F]at d;subst d;replace c3:=(hb.cell (p:=⟨w.heap.size,3,none⟩) L).trans c3;have q:=O hb;clear hb)
     |((with_reducible refine(ix x.stop 0 ((n:Int)-2) _).mono ?_);rintro e w3 ⟨d,hb⟩;rw[N]at d;subst d;have g:=I q hb;have P:=(g.cell (p:=⟨w.heap.size,7,none⟩) L).trans C7;have W:=(g.cell (p:=⟨b1,off+j*22,none⟩) hlt).trans D0;have c3:=((Hg.go g).cells).2.2.2.1;rw[Hj]at c3;have t:=O g;clear hb g))
    go_ret;exact⟨by rw[o,Hk];simp,I r t⟩
   case false=>
    have hk:(kU x.l x.stop !=3)=true:=by rw[A];simpa using hk3
    have Hk:=O hk;clear hk;cases him:(tr y&&pM y.s n2)
    case false=>
     have M:iW x.stop x.l=false:=by
      rw[o,B];cases K:tr y
      .rw[T K];simp
      .rw[K]at him;simp only[Bool.true_and]at him;rw[him];simp
     have a5:=O M;have a1:=O him;clear M him
     go_wp2_with(first
      |((with_reducible refine(ix (n:Int) 2 16 _).mono ?_);rintro e w2 ⟨d,hb⟩;rw[F]at d;subst d;replace c3:=(hb.cell (p:=⟨w.heap.size,3,none⟩) L).trans c3;have q:=O hb;clear hb)
      |((with_reducible refine(ix x.stop 0 ((n:Int)-2) _).mono ?_);rintro e w3 ⟨d,hb⟩;rw[N]at d;subst d;have g:=I q hb;have P:=(g.cell (p:=⟨w.heap.size,7,none⟩) L).trans C7;have W:=(g.cell (p:=⟨b1,off+j*22,none⟩) hlt).trans D0;have c3:=((Hg.go g).cells).2.2.2.1;rw[Hj]at c3;have t:=O g;clear hb)
      |(refine pW (jb Hr (gE g) hlt) (by rfl) (.tmp 34) rfl rfl ?_)
      |((with_reducible refine(zy y a2 n2 c2 _ (Hz.out.go g) R b3.out).mono ?_);rintro e w4 ⟨d,hb⟩;rw[a1]at d;subst d;have X:=O hb;clear hb))
     go_ret;exact⟨by rw[a5];rfl,I r (I t X)⟩
    case true=>
     have S:uM x.l=false->iW x.stop x.l=true:=by
      intro hb;rw[am]at him;rw[o,B,him.2,hb,Hk,F,N];rfl
     have M:uM x.l=true->iW x.stop x.l=false:=by
      intro hb;rw[o,hb];simp
     have a5:=O M;have a8:=O S;have a1:=O him;clear M S him
     go_wp2_with(first
      |((with_reducible refine(ix (n:Int) 2 16 _).mono ?_);rintro e w2 ⟨d,hb⟩;rw[F]at d;subst d;replace c3:=(hb.cell (p:=⟨w.heap.size,3,none⟩) L).trans c3;have q:=O hb;clear hb)
      |((with_reducible refine(ix x.stop 0 ((n:Int)-2) _).mono ?_);rintro e w3 ⟨d,hb⟩;rw[N]at d;subst d;have g:=I q hb;have P:=(g.cell (p:=⟨w.heap.size,7,none⟩) L).trans C7;have W:=(g.cell (p:=⟨b1,off+j*22,none⟩) hlt).trans D0;have c3:=((Hg.go g).cells).2.2.2.1;rw[Hj]at c3;have t:=O g;clear hb)
      |(refine pW (jb Hr (gE g) hlt) (by rfl) (.tmp 34) rfl rfl ?_)
      |((with_reducible refine(zy y a2 n2 c2 _ (Hz.out.go g) R b3.out).mono ?_);rintro e w4 ⟨d,hb⟩;rw[a1]at d;subst d;have X:=O (I g hb);clear hb))
     clear c3 P W g
     go_loopw [4] (fun iv wr=>∃i:Nat,i<=n/\iv=.int .i64 (i:Int)/\(x.l.take i).any (fun x=>!tr x)=false/\Below w1 w1 wr) (fun iv _=>n-(intOf iv).toNat)
     case atStart=>exact⟨0,by omega,rfl,rfl,X⟩
     case round=>
      obtain⟨i,hi,rfl,K,hb⟩:=hrel;have Ho:=O K;have q:=O hb;clear K hb;obtain⟨_,_,_,_,_,_,_,P,_⟩:=(Hg.go q).cells;have hgl:w.heap.size<wr.heap.size:=eb L q.size;by_cases c9:i<n
      .obtain⟨b4,o4,u,e1,e4,d5,hu,⟨a4,n4,c4,rfl,a7,d3,-,c8⟩,b8⟩:=(a0.go iD q).at c9
       cases e4
       have a6:tr u=oA u.s u.zs n4:=by unfold tr;rw[<- mU a7]
       have c5:=O (a7.ir (fun _ h=>h));have c1:=O b8;clear a7 b8;cases K:oA u.s u.zs n4
       all_goals
        have HO:=O K;rw[K]at a6;have b5:=O a6;have Hu:=O hu;clear K a6 hu
        go_wp2_with(first
         |(refine lw c1 rfl (.tmp 47) rfl rfl ?_)
         |((with_reducible refine(lN u.s u.zs a4 n4 c4 _ c5.out d3 c8).mono ?_);rintro e w5 ⟨d,hb⟩;rw[HO]at d;subst d;have b0:=O hb;clear hb))
       .go_ret
        refine⟨?_,I r (I q b0)⟩;rw[a5 (yI Hu (by rw[b5];rfl))];rfl
       .go_roundw
        case rel=>exact⟨i+1,by omega,by go_num,(wV Hu Ho).trans (by rw[b5];rfl),I q b0⟩
        case measure=>simp[intOf];omega
      .obtain rfl:i=n:=by omega
       go_wp2;go_ret;refine⟨?_,I r q⟩;have:=Ho.out;rw[<- H,bf]at this;rw[a8 this];rfl
def lr(l:List gM)(c:jd):Bool:=match tu l c.zs (c.zs.length/3)with
 |none=>false
 |some _=>decide (c.zs.length/3<=12)
def jo(l:List gM)(cf:List jd):Bool:=cf.all (lr l)&&decide (cf.length<=4)&&vV (cf.map jd.nm)
def kA{ops:Array Oper}{d:List Oper}{o:Oper}{a:Act}{Q:Exit->Act->World->Prop}{W:World}{α:Type}{R:pB α}{k:Nat}(ok:kR k R){T e:TypeId}{z:Value}{c:Nat}(f:prog.underlying e=some (.slice T))(n:(prog.info? T).map (fun i=>(i.zero,i.size,i.bytes))=some (some z,k,c))(r:z.cells.size=k)(p:0<k)(j:c<=10000)
 (m:o.guard=none)(s x:Operand)
 (q:o.op=.call {callee:=.builtin .append,args:=#[s,x],argTypes:=#[e,e]})(base:Nat)(w:World)(v:Value)(l:List α)(y:α)(cs:List Value)
 (N:Nat)(hN:l.length=N)(hs:a.eval s=v)(hrow:jD R k T base w v l)(hW:W=w.alloc (.cells cs.toArray T))(hx:a.eval x=.slice (J (w.heap.size)) 1 1)(hy:R (fun b=>base<=b/\b<w.heap.size/\v.ownBlock≠some b) w y cs)(hlen:l.length<=1000000)(hbase:base<=w.heap.size)
 (h:∀g cap w',jD R k T base w' (.slice (J g) (N+1) cap) (l++[y])->(∀B w0,B<=base->Below B w0 w->Below B w0 w')->gN (fun b=>b<w.heap.size/\v.ownBlock≠some b) w w'->w.heap.size<=w'.heap.size->wpList prog ops Q d (a.put o.dst (.slice (J g) (N+1) cap)) w'):
 wpList prog ops Q (o::d) a W:=by
 subst hN;exact Uq ok f n r p j m s x q base w v l y cs hs hrow hW hx hy hlen hbase h
def Tryz.infoString1:(prog.info? 9).map (fun i=>(i.zero,i.size,i.bytes))=some (some (.string ik),1,16):=by kernel_rfl
def BV{α:Type}{f:α->Bool}{l:List α}{k:Nat}{x:α}(h:l[k]? =some x)(h0:(l.take k).all f=true):(l.take (k+1)).all f=f x:=by
 rw[mn h,er,h0];simp
def Ew{α:Type}{f:α->Bool}{l:List α}{k:Nat}{x:α}(h:l[k]? =some x)(h0:f x=false):l.all f=false:=by
 rw[dw];intro a;have:=an.1 a x (aL h);rw[h0]at this;cases this
def C3(x:gR)(f v s k:iJ)(g:Nat)(T:TypeId)(w:World)(hg:kr w g T x f v s k)(hf:RR jE 22 (fun b=>b<w.heap.size) w s.a s.n s.c x.l)(hn:s.n<=1000000)
 (hc:RR oB 2 (fun b=>b<w.heap.size) w k.a k.n k.c x.cf)(hk:k.n<=1000000)(hp:jY w w):
 Calls prog 70 #[U g] w (iZ w (.bool (jo x.l x.cf))):=by
 have Hg:=O hg;have Hf:=O hf;have Hc:=O hc;have Hp:=O hp;have j:=hc.1;clear hg hf hc hp;obtain⟨sa,n,sc⟩:=s;obtain⟨ka,m,kc⟩:=k;simp only at*;obtain⟨_,_,_,_,_,_,_,_,c8⟩:=Hg.cells;have hl:=Hg.lt;go_enter func70,ntmps70;go_wp2
 go_loopw [3,14] (fun nv iv wr=>∃i:Nat,i<=m/\iv=.int .i64 (i:Int)/\jD QO 1 9 w wr nv ((x.cf.take i).map jd.nm)/\(x.cf.take i).all (lr x.l)=true/\Below w w wr) (fun _ iv _=>m-(intOf iv).toNat)
 case atStart=>exact⟨0,by omega,rfl,jD.nil _ _ _ _ _,rfl,TH _ _⟩
 case round=>
  clear c8;obtain⟨i,hi,rfl,ho,ha,hb⟩:=hrel;have Ho:=O ho;have A:=O hb;have Ha:=O ha;clear ho hb ha;have hgl:g<wr.heap.size:=eb hl A.size;by_cases c4:i<m
  .obtain⟨b1,off,y,cs,rfl,hlt,W,⟨a2,C,c2,rfl,hz,c9,c3,b0⟩,hr⟩:=Hc.at c4
   have x0:=(A.cell (p:=⟨b1,off+i*2+0,none⟩) hlt).trans (hr 0 _ rfl);have x1:=(A.cell (p:=⟨b1,off+i*2+1,none⟩) hlt).trans (hr 1 _ rfl);rw[bE]at x0;have b7:=O (mU hz);have Hy:=O W;have Hz:=O (hz.ir (fun _ h=>h));have b6:=O b0;clear hr W hz c3 b0
   have b2:((x.cf.take i).map jd.nm).length=i:=by rw[aU,bn,j];omega
   have a5:=O b2;clear b2;have r:=O (show Below wr wr (wr.alloc (.cells #[y.nm,Z a2 C c2] 67))from gY (TH _ _));have F:=O (TL wr (.cells #[y.nm,Z a2 C c2] 67));go_upto_region 5 with fail;refine gI (fun wx=>wx.heap[wr.heap.size]? =some (.cells #[y.nm,Z a2 C c2] 67 (0,0))/\Below wr wr wx) ⟨F,r⟩ ?_;clear F r;rintro w2 ⟨L,a7⟩;have d0:w2.cell? (J (wr.heap.size))=some (.string y.nm):=(VV L 0).trans rfl;have c5:=TK L;have F:=O L;have r:=O a7;clear L a7
   go_upto_region 6 with(refine kA Xi underlying88 Tryz.infoString1 rfl (by omega) (by omega) rfl (.tmp 18) (.tmp 21) rfl w w2 u3 ((x.cf.take i).map jd.nm) y.nm [y.nm] i a5 rfl (Ho.go Xi r) rfl rfl ⟨rfl,b6⟩ (by rw[a5];omega) (af A.size r.size) ?_;intro g3 d3 X b3 a9 R b4)
   have b8:=O b3;have D:=O (a9 _ _ (ag _) (I A r));have c0:=O (af r.size b4);have a6:=O ((R wr ⟨c5,Ho.fresh (ag _)⟩).trans F);have d4:=O R;clear b3 a9 R b4;have c6:wr.heap.size<X.heap.size:=TK a6
   have a3:g<X.heap.size:=by have:=c0.out;omega
   have d1:X.cell? ⟨wr.heap.size,1,none⟩=some (.slice a2 C c2):=(VV a6 1).trans rfl;obtain⟨_,_,_,_,_,_,_,c7,_⟩:=(Hg.go D).cells;refine ic 13 [] [] [(0,true),(1,true),(2,true),(3,true),(4,true),(5,true),(6,true),(7,false),(8,true),(9,true),(10,true),(11,true),(12,true)] (by kernel_rfl) (by kernel_rfl) ⟨by simp,by simp,fun _ h=>by cases h⟩ (fun _ _ _ _ _ h=>h) (fun _ _ o _ _ h=>by cases o<;>exact h) ?_
   iterate 7
    refine gZ (v:=?_) ?_ ?_;rotate_left
    .intro y W
     have z7:=(W.cell (p:=⟨g,7,none⟩) a3).trans c7;have z1:=(W.cell (p:=⟨wr.heap.size,1,none⟩) c6).trans d1;go_simp;with_reducible rfl
    try simp only[V]
   refine iK (fun x1 S K hK=>?_);go_simp;have d:Below X X x1:=gJ (k:=1) S;have P:=O (I D d)
   have B:∀b,lr x.l y=b->(b=true->(x.cf.take (i+1)).all (lr x.l)=true)/\(b=false->jo x.l x.cf=false):=by
    intro b hb;refine⟨fun e=>(BV Hy Ha).trans (hb.trans e),fun e=>?_⟩;unfold jo;rw[Ew Hy (hb.trans e)];rfl
   have H:lr x.l y=(match tu x.l y.zs C with|none=>false|some _=>decide (C<=12)):=by unfold lr;rw[<- b7]
   have t:=O B;have z:=O H;clear B H;refine(W7 x.l y.zs sa a2 n sc C c2 _ (Hf.go iD P) hn (Hz.go P) c9 (Hp.go P)).mono ?_;rintro e w4 (⟨h1,rfl,q⟩|⟨l',g',m',c',h1,rfl,d2,q⟩)
   .refine hK _ _ q ?_
    clear hK K;have N:=O (I D (I d q));clear q S d
    iterate 5
     refine iy (v:=?_) ?_ ?_;rotate_left
     .intro y
      go_simp;with_reducible rfl
     try simp only[V]
    refine jV (l:=[]) rfl (fun w5 u=>?_);have E:=O (I N u);clear u;go_wp2;go_ret;refine⟨?_,E⟩;rw[(t false (by rw[z,h1])).2 rfl];rfl
   .refine hK _ _ q ?_
    clear hK K;have a0:=O (I d q);have N:=O (I D (I d q));clear q S d d2;by_cases c1:C<=12
    all_goals
     have a4:=O c1
     iterate 5
      refine iy (v:=?_) ?_ ?_;rotate_left
      .intro y
       go_simp;with_reducible rfl
      try simp only[V]
     refine jV (l:=[]) rfl (fun w5 u=>?_);have a1:=O (I a0 u);have E:=O (I N u);clear u;go_wp2_with fail
    .go_roundw
     case rel=>exact⟨i+1,by omega,by go_num,by rw[mn Hy,aT];exact b8.go Xi a1,(t true (by rw[z,h1];simp[a4.out])).1 rfl,E⟩
     case measure=>simp[intOf];omega
    .go_ret
     refine⟨?_,E⟩;rw[(t false (by rw[z,h1];simp[a4.out])).2 rfl];rfl
  .obtain rfl:i=m:=by omega
   obtain⟨_,_,_,_,_,_,_,_,c8⟩:=(Hg.go A).cells;have M:=Ho.out;have Q:=Ha.out;rw[<- j,bf]at M Q
   have B:jo x.l x.cf=(decide (i<=4)&&vV (x.cf.map jd.nm)):=by unfold jo;rw[Q,j];rfl
   have t:=O B;clear B
   have hv:∃a c,u3=.slice a i c:=by
    obtain ⟨rfl,e⟩|⟨g,cap,rfl,_,_,_,_,_⟩:=M.form
    .have:i=0:=by rw[<- j];have:=ai List.length e;simpa using this
     subst this;exact⟨none,0,rfl⟩
    .exact⟨_,_,by rw[aU,j]⟩
   obtain⟨av,cv,rfl⟩:=hv;have b9:=O (M.rr Xi);clear M Q;by_cases h4:i<=4
   all_goals
    go_wp2_with((with_reducible refine(A5 (x.cf.map jd.nm) av i cv _ b9.out hk).mono ?_);rintro e w2 ⟨he,a8⟩;subst he;have b5:=O a8;clear a8)
    go_ret
   .exact⟨by rw[t];simp[h4],I A b5⟩
   .exact⟨by rw[t];simp[h4],A⟩
def zu(l:List gM)(a:Option Addr)(n c:Nat)(w:World)(h:RR jE 22 (fun b=>b<w.heap.size) w a n c l)(hn:n<=1000000):
 Calls prog 85 #[Z a n c] w (fun e w'=>∃v,e=.returned v/\oJ w w' v l/\Below w w w'):=by
 have H:=O h;clear h;have E:=H.1;go_enter func85,ntmps85;go_wp2
 go_loopw [3,4] (fun v iv wr=>∃k:Nat,k<=n/\iv=.int .i64 (k:Int)/\oJ w wr v (l.take k)/\Below w w wr) (fun _ iv _=>n-(intOf iv).toNat)
 case atStart=>exact⟨0,by omega,rfl,oJ.nil _ _,TH _ _⟩
 case round=>
  obtain⟨k,hk,rfl,ho,hb⟩:=hrel;have F:=O ho;have m:=O hb;clear ho hb;by_cases b3:k<n
  .obtain⟨b,off,x,cs,rfl,hlt,hx,⟨a2,i,c2,rfl,hz,b4,a1,a3⟩,hr⟩:=(H.go iD m).at b3
   have Hl:(l.take k).length=k:=by rw[bn,E];omega
   have u:=O (Y.new wr x.s a2 i c2);have d:=O (gY (o:=.cells (⟨x.s,a2,i,c2⟩:jt) 58) (TH wr wr));have Hx:=O hx;have Hz:=O (hz.ir (fun _ h=>h));have a9:=O a1;have Hr:=O hr;have b0:=O a3;have HL:=O Hl;clear hx hz a1 hr a3 Hl
   go_upto_region 6 with(first
    |(refine lw Hr rfl (.tmp 14) rfl rfl ?_)
    |(refine lC x.s a2 i c2 _ rfl rfl (.tmp 5) (.tmp 15) rfl rfl rfl ?_))
   refine gI (fun B=>Y B wr x.s a2 i c2/\Below wr wr B) ⟨u,d⟩ ?_;clear u d;rintro z ⟨h1,W⟩;have L:=h1.lt;have N:=h1.cells.2.2.2.2.2.2.2.2.2.2.2.2.2.2.2.2.2.2.2.2.2;have u:=O h1;have d:=O W;clear h1 W
   go_upto_region 7 with(first
    |(refine je underlying56 Tryz.infoFilm3 rfl (by omega) (by omega) rfl (.tmp 16) (.tmp 18) rfl z (.slice (J (z.heap.size)) 0 0) 0 [] rfl (World.ownsRow_made z #[] 0 (ag _) (by simp) rfl) (fun b=>b<z.heap.size) a2 i c2 x.zs rfl (IR.irp ((Hz.go d).below ((TH _ _).alloc (ag _) _) (ag _)) (fun _ h=>h)) a9 (by omega) (by simp) ?_;intro v' P y t;obtain⟨a',c',rfl,a0,hi⟩:=lc y;have hi:=jN.own (S:=fun b=>z.heap.size<=b/\b<P.heap.size) y (fun g h1 h2=>⟨h1,h2⟩);have D:Below z z P:=((TH _ _).alloc (ag _) _).grown t (by simp) (by intro k hk;simp[Value.ownBlock]at hk;omega);clear y t N;have fz:=Y.free (Y.go u D L) 21;have N:=(Y.cells (Y.go u D L)).2.2.2.2.2.2.2.2.2.2.2.2.2.2.2.2.2.2.2.2.2;have Hi:=O hi;have b7:=O a0;have j:=O D;clear hi a0 D))
   have a4:jN (fun b=>z.heap.size<=b/\b<P.heap.size) P a' i c' x.zs:=by have k:=Hi.out;rw[aV]at k;exact k
   refine gI (fun B=>Y B wr x.s a' i c'/\Below wr wr B/\jN (fun b=>z.heap.size<=b/\b<B.heap.size) B a' i c' x.zs) ⟨Y.p8 (Y.go u j L) a' i c',(I d j).setCell (p:=⟨wr.heap.size,21,none⟩) (ag _) _,a4.kept ((gK wr [_] 21 P).mono ?_) ?_⟩ ?_
   .intro b hb;have:=hb.1;omega
   .intro b hb;simp;exact hb
   clear u j a4 Hi N fz;rintro A ⟨h1,K,hi⟩;have b8:=h1.lt;have hy:rL (fun b=>w.heap.size<=b/\b<A.heap.size/\u3.ownBlock≠some b) A ⟨x,wr.heap.size,A.heap.size⟩ (gX x.s a' i c'):=⟨a',i,c',rfl,hi.kept (gN.refl _ _) (fun b hb=>⟨⟨by have:=hb.1;have:=m.size;have:=d.size;omega,hb.2,F.r.fresh (by have:=hb.1;have:=d.size;omega)⟩,⟨by show wr.heap.size<=b;have:=hb.1;have:=d.size;omega,hb.2⟩⟩),b4,b0⟩;obtain⟨lq,M,f,T,a7⟩:=F
   have a5:lq.length=k:=by rw[<- mD,M];exact HL
   have b1:=O M;have Hq:=O (f.go jX K);have a8:=O T;have C:=O a7;have R:=O a5;clear M f T a7 a5;have u:=O h1;have j:=O K;have Hy:=O hy;clear h1 K hi hy
   go_wp2_with(first
    |(refine gO u rfl (.tmp 5) rfl rfl ?_)
    |(refine kA jX underlying34 Tryz.infoSurf3 rfl (by omega) (by omega) rfl (.tmp 21) (.tmp 23) rfl w A u3 lq ⟨x,wr.heap.size,A.heap.size⟩ (gX x.s a' i c') k R rfl Hq rfl rfl Hy (by rw[R];omega) (af m.size j.size) ?_;intro g3 b6 w8 a6 X _ _;have b2:=O a6;have Q:=O X;clear a6 X))
   go_roundw
   case rel=>
    have b5:=(Q _ _ (ag _) (TH w A)).size;have b9:=d.size;have c1:=j.size;have c0:=m.size
    exact⟨k+1,by omega,by go_num,⟨_,by rw[Ek,b1,mn Hx];rfl,b2,a8.snoc (fun q f=>(C q f).2.2),(fun q f=>by
     obtain f|f:=bj.1 f
     .exact⟨(C q f).1,(C q f).2.1,by have:=(C q f).2.2;omega⟩
     .obtain rfl:=aK.1 f;exact⟨by show w.heap.size<=wr.heap.size;omega,by show wr.heap.size<=A.heap.size;omega,by show A.heap.size<=_;exact b5⟩)⟩,Q _ _ (ag _) (I m j)⟩
   case measure=>simp[intOf];omega
  .obtain rfl:k=n:=by omega
   go_wp2;go_ret;have:=F.out;rw[<- E,bf]at this;exact⟨_,rfl,this,m⟩
def GI(x:gR)(f v s k:iJ)(g p:Nat)(T:TypeId)(w:World)(a:kr w g T x f v s k)(c:x.nm.size<=9223372036854775807)(d:w.cell? (J p)=some (.pointer (J g))):
 Calls prog 63 #[U p] w (iZ w (.bool (kI x.nm))):=by
 obtain⟨c0,_⟩:=a.cells;clear a;go_enter func63,ntmps63
 go_wp2_with((with_reducible refine(ze x.nm _ c).mono ?_);rintro e h ⟨b,hb⟩;subst b)
 go_ret;exact⟨rfl,hb⟩
def pN(i9 pb:Int):Bool:=bt i9 0 1000000000&&bt pb 1 1000000000
def GJ(x:gR)(f v s k:iJ)(g p:Nat)(T:TypeId)(w:World)(c:kr w g T x f v s k)(n:w.cell? (J p)=some (.pointer (J g)))(j:p<w.heap.size):
 Calls prog 65 #[U p] w (iZ w (.bool (pN x.i9 x.pb))):=by
 obtain⟨_,c1,l:HQ _,_⟩:=c.cells;have m:=c.lt;have P:=O n;clear c;cases h1:bt x.i9 0 1000000000<;>cases h2:bt x.pb 1 1000000000
 all_goals
  have d:=O h1;have h:=O h2;clear h1 h2;go_enter func65,ntmps65
  go_wp2_with(first
   |((with_reducible refine(jc x.i9 _ _ _).mono ?_);rintro e q ⟨a,b:HQ _⟩;rw[d]at a;subst a;have c2:=(b.cell (p:=⟨g,2,none⟩) m).trans l;have o:=(b.cell (p:=J p) j).trans P)
   |((with_reducible refine(jc x.pb _ _ _).mono ?_);rintro e r ⟨a,i:HQ _⟩;rw[h]at a;subst a))
  go_ret;unfold pN;rw[d,h]
  first
   |exact⟨rfl,I b i⟩
   |exact⟨rfl,b⟩
def jO(x:gR):Nat->Bool
 |0=>kI x.nm
 |1=>pN x.i9 x.pb
 |2=>jx x.i9 x.fs (x.fs.length/2)
 |3=>VY x.p9 x.ws (x.ws.length/2)
 |4=>iW x.stop x.l
 |_=>jo x.l x.cf
def iI(x:gR):Bool:=(List.range 6).all (jO x)
def S5(g p:Nat):List Value:=[.func (.func 63) #[] #[U p],.func (.func 65) #[] #[U p],.func (.func 67) #[U g] #[],.func (.func 68) #[U g] #[],.func (.func 69) #[U g] #[],.func (.func 70) #[U g] #[]]
def qW{S:Nat->Prop}{w:World}{a:Option Addr}{n c:Nat}{zs:List Int}(h:IRp S w 2 a n c zs):n=zs.length/2:=by rw[h.1];omega
def Po(x:gR)(f v s k:iJ)(g p q c:Nat)(T T2:TypeId)(w:World)(R:kr w g T x f v s k)(hx:iP (fun b=>b<w.heap.size) w x f v s k)(W:w.cell? (J p)=some (.pointer (J g)))(H:p<w.heap.size)(Q:jY w w)
 (K:w.heap[q]? =some (.cells (S5 g p).toArray T2 (0,0)))(hc:6<=c):
 Calls prog 62 #[Z (J q) 6 c] w (iZ w (.bool (iI x))):=by
 have Hg:=O R;have u:=O hx;have Hp:=O W;have HP:=O Q;have Hq:=O K;have X:=TK K;clear R hx W Q K;go_enter func62,ntmps62;go_wp2_with fail;go_step3;go_wp2_with fail;go_step3;go_wp2
 go_loopw [3,8] (fun ov L wr=>∃i:Nat,i<=6/\L=.int .i64 (i:Int)/\ov=.bool true/\(List.range i).all (jO x)=true/\Below w w wr) (fun _ L _=>6-(intOf L).toNat)
 case atStart=>exact⟨0,by omega,rfl,rfl,rfl,TH _ _⟩
 case round=>
  obtain⟨i,hi,rfl,rfl,y:HQ _,Hb:HQ _⟩:=hrel;have z:=O (Hg.go Hb);have A:=O (u.go Hb);have P2:=O ((Hb.cell (p:=J p) H).trans Hp);have P:=O (HP.go Hb);have D:p<wr.heap.size:=eb H Hb.size;have t:=(Hb.block _ X).trans Hq;have o:=O (show∀j,j<6->jO x j=false->iI x=false from fun j hj h=>jK hj h)
  have E:jx x.i9 x.fs f.n=jO x 2:=by show _=jx x.i9 x.fs (x.fs.length/2);rw[<- qW u.fs]
  have F:VY x.p9 x.ws v.n=jO x 3:=by show _=VY x.p9 x.ws (x.ws.length/2);rw[<- qW u.ws]
  have M:=O E;have N:=O F;clear E F
  have S:i=0\/i=1\/i=2\/i=3\/i=4\/i=5\/i=6:=by omega
  obtain rfl|rfl|rfl|rfl|rfl|rfl|rfl:=S
  .have C:wr.cell? (J q)=some (.func (.func 63) #[] #[U p]):=(VV t 0).trans rfl
   cases hv:jO x 0
   all_goals
    have r:Hid (kI x.nm=_):=O (hv);have d:=O hv;clear hv
    go_wp2_with((with_reducible refine(GI x f v s k g p T _ z.out u.out.nm P2.out).mono ?_);rintro e B ⟨m,hb⟩;rw[r]at m;subst m;have a:=O (I Hb hb);clear hb)
   .go_ret
    exact⟨by rw[o 0 (by omega) d];rfl,a⟩
   .go_roundw
    case rel=>exact⟨1,by omega,rfl,rfl,jl y d,a⟩
    case measure=>simp[intOf]
  .have C:wr.cell? ⟨q,1,none⟩=some (.func (.func 65) #[] #[U p]):=(VV t 1).trans rfl
   cases hv:jO x 1
   all_goals
    have r:Hid (pN x.i9 x.pb=_):=O (hv);have d:=O hv;clear hv
    go_wp2_with((with_reducible refine(GJ x f v s k g p T _ z.out P2.out D).mono ?_);rintro e B ⟨m,hb⟩;rw[r]at m;subst m;have a:=O (I Hb hb);clear hb)
   .go_ret
    exact⟨by rw[o 1 (by omega) d];rfl,a⟩
   .go_roundw
    case rel=>exact⟨2,by omega,rfl,rfl,jl y d,a⟩
    case measure=>simp[intOf]
  .have C:wr.cell? ⟨q,2,none⟩=some (.func (.func 67) #[U g] #[]):=(VV t 2).trans rfl
   cases hv:jO x 2
   all_goals
    have r:Hid (jx x.i9 x.fs f.n=_):=O (M.trans hv);have d:=O hv;clear hv
    go_wp2_with((with_reducible refine(Et x f v s k g T _ z.out (A.out.fs.ir (fun _ h=>h)) u.out.fn).mono ?_);rintro e B ⟨m,hb⟩;rw[r]at m;subst m;have a:=O (I Hb hb);clear hb)
   .go_ret
    exact⟨by rw[o 2 (by omega) d];rfl,a⟩
   .go_roundw
    case rel=>exact⟨3,by omega,rfl,rfl,jl y d,a⟩
    case measure=>simp[intOf]
  .have C:wr.cell? ⟨q,3,none⟩=some (.func (.func 68) #[U g] #[]):=(VV t 3).trans rfl
   cases hv:jO x 3
   all_goals
    have r:Hid (VY x.p9 x.ws v.n=_):=O (N.trans hv);have d:=O hv;clear hv
    go_wp2_with((with_reducible refine(GH x f v s k g T _ z.out (A.out.ws.ir (fun _ h=>h)) u.out.wn).mono ?_);rintro e B ⟨m,hb⟩;rw[r]at m;subst m;have a:=O (I Hb hb);clear hb)
   .go_ret
    exact⟨by rw[o 3 (by omega) d];rfl,a⟩
   .go_roundw
    case rel=>exact⟨4,by omega,rfl,rfl,jl y d,a⟩
    case measure=>simp[intOf]
  .have C:wr.cell? ⟨q,4,none⟩=some (.func (.func 69) #[U g] #[]):=(VV t 4).trans rfl
   cases hv:jO x 4
   all_goals
    have r:Hid (iW x.stop x.l=_):=O (hv);have d:=O hv;clear hv
    go_wp2_with((with_reducible refine(A4 x f v s k g T _ z.out A.out.l u.out.sn).mono ?_);rintro e B ⟨m,hb⟩;rw[r]at m;subst m;have a:=O (I Hb hb);clear hb)
   .go_ret
    exact⟨by rw[o 4 (by omega) d];rfl,a⟩
   .go_roundw
    case rel=>exact⟨5,by omega,rfl,rfl,jl y d,a⟩
    case measure=>simp[intOf]
  .have C:wr.cell? ⟨q,5,none⟩=some (.func (.func 70) #[U g] #[]):=(VV t 5).trans rfl
   cases hv:jO x 5
   all_goals
    have r:Hid (jo x.l x.cf=_):=O (hv);have d:=O hv;clear hv
    go_wp2_with((with_reducible refine(C3 x f v s k g T _ z.out A.out.l u.out.sn A.out.cf u.out.kn P.out).mono ?_);rintro e B ⟨m,hb⟩;rw[r]at m;subst m;have a:=O (I Hb hb);clear hb)
   .go_ret
    exact⟨by rw[o 5 (by omega) d];rfl,a⟩
   .go_roundw
    case rel=>exact⟨6,by omega,rfl,rfl,jl y d,a⟩
    case measure=>simp[intOf]
  .go_wp2
   go_ret;exact⟨by unfold iI;rw[y];rfl,Hb⟩
def Km(x:gR)(f v s k:iJ)(g:Nat)(T:TypeId)(w:World)(h:kr w g T x f v s k)(i:iP (fun b=>b<w.heap.size) w x f v s k)(c:jY w w):
 Calls prog 37 #[U g] w (iZ w (.bool (iI x))):=by
 have m:=O h;have n:=O i;have l:=O c;clear h i c;obtain⟨j:HQ _,E2:HQ _⟩:=iN w (.cells #[U g] 150) (.cells (S5 g w).toArray 47);have a:=O (iH (w:=w) (.cells #[U g] 150) (.cells (S5 g w).toArray 47));go_enter func37,ntmps37;go_wp2_with fail;refine(Po x f v s k g w (w+1) 6 T 47 _ (m.go a) (n.go a) ((VV j 0).trans rfl) (by simp<;>omega) (l.go a) E2 (by omega)).mono ?_;rintro e p ⟨o,d⟩;subst o;go_wp2;go_ret;exact⟨rfl,I a d⟩
def jG(x:gR)(f v s k:iJ):Value:=.agg #[x.nm,x.i9,x.pb,x.stop,x.p9,Z f.a f.n f.c,Z v.a v.n v.c,Z s.a s.n s.c,Z k.a k.n k.c]
def YN(x:gR)(f v s k:iJ)(w:World)(h:iP (fun b=>b<w.heap.size) w x f v s k)(c:jY w w):
 Calls prog 14 #[jG x f v s k] w (iZ w (err (iI x) 120)):=by
 have m:=O h;have j:=O c;clear h c;obtain⟨n,i:HQ _⟩:=iN w (.cells (iw x f v s k).toArray 37) (.cells (iw x f v s k).toArray 118);have a:=O (iH (w:=w) (.cells (iw x f v s k).toArray 37) (.cells (iw x f v s k).toArray 118));clear n;unfold jG;go_enter func14,ntmps14;cases hv:iI x
 all_goals
  have l:=O hv;clear hv;go_wp2_with fail;refine(Km x f v s k (w+1) 118 _ i (m.go a) (j.go a)).mono ?_;rintro e o ⟨g,d⟩;rw[l]at g;subst g;go_wp2;go_ret;exact⟨rfl,I a d⟩
def jD.rr2{α:Type}{R:pB α}{k:Nat}(ok:kR k R){T:TypeId}{base:Nat}{w:World}{a:Option Addr}{n c:Nat}{l:List α}(h:jD R k T base w (.slice a n c) l):RR R k (fun b=>base<=b/\b<w.heap.size) w a n c l:=by
 have o:=h.rr ok;refine⟨o.1,o.2.1,fun t=>?_⟩;obtain⟨b,off,e,hb,m⟩:=o.2.2 t;obtain⟨css,h1,h2,h3,r⟩:=id h
 obtain ⟨f,h0⟩|⟨g,cap,y,f,u,z,A,B,C,D⟩:=h3.2
 .cases f;cases e
 .cases f;cases e
  refine⟨_,0,rfl,⟨u,hb⟩,fun i x q=>?_⟩;have hi:i<l.length:=(TG.1 q).1;have d:css[i]? =some css[i]:=ae (by omega);refine⟨css[i],ok.kept (r i x _ q d) (gN.refl _ _) (fun b h=>⟨h.1,h.2.1⟩),fun j v p=>?_⟩
  have s:j<k:=by
   have:=(TG.1 p).1;rw[h2 css[i] (cW _)]at this;exact this
  have m:=h3.cells rfl (i*k+j) v (by rw[mC css i _ j h2 d s];exact p);rw[Addr.add_mid,<- cN]at m;exact m
def Tryz.infoLens:(prog.info? 37).map (·.size)=some 9:=by kernel_rfl
def ja{ops:Array Oper}{b:List Oper}{e:Oper}{d:Act}{w:World}{Q:Exit->Act->World->Prop}{g:Nat}{cs:Array Value}(x:gR)(f v s k:iJ)(h:w.heap[g]? =some (.cells cs 37 (0,0)))(i:cs.size=9)(j:e.guard=none)(y z:Operand)(m:e.op=.store 37 y z)
 (o:d.eval y=.pointer (J g))(p:d.eval z=.agg #[x.nm,x.i9,x.pb,x.stop,x.p9,Z f.a f.n f.c,Z v.a v.n v.c,Z s.a s.n s.c,Z k.a k.n k.c])
 (l:∀w',kr w' g 37 x f v s k->w'=w.setCells g 0 (iw x f v s k)->wpList prog ops Q b (d.put e.dst undef) w'):wpList prog ops Q (e::b) d w:=
 wpList_store_mid j 37 y z m g 0 _ o p (tF h i) Tryz.infoLens (by simp[Value.oneCell']) (l _ (tE h i) rfl)
def kr.range{w:World}{g:Nat}{T:TypeId}{x:gR}{f v s k:iJ}(h:kr w g T x f v s k):w.rangeAt g 0 (iw x f v s k):=xK h
def it{ops:Array Oper}{b:List Oper}{d:Oper}{e:Act}{w:World}{Q:Exit->Act->World->Prop}{g:Nat}{T:TypeId}{x:gR}{f v s k:iJ}(h:kr w g T x f v s k)(i:d.guard=none)(y:Operand)(l:d.op=.load 37 y)
 (m:e.eval y=.pointer (J g))(j:wpList prog ops Q b (e.put d.dst (.agg #[x.nm,x.i9,x.pb,x.stop,x.p9,Z f.a f.n f.c,Z v.a v.n v.c,Z s.a s.n s.c,Z k.a k.n k.c])) w):wpList prog ops Q (d::b) e w:=
 wpList_load_mid i 37 y l g 0 m (iw x f v s k) _ h.range underlying37 rfl Tryz.infoLens j
def vW{fn:Func}{p u:Tmp}{tmps:Array Value}{w:World}{g:Nat}{x:gR}{f v s k:iJ}{e:Value}(h:fn.results=#[.cell p 37,.tmp u])(a:tmps.getD p undef=.pointer (J g))(c:tmps.getD u undef=e)(b:kr w g 37 x f v s k):
 (results fn tmps).run prog w=.ok (.tuple #[jG x f v s k,e]) w:=by
 rw[results_cell_tmp h,a,c];simp only[asAddr,cT,bU];rw[run_loadVar_row w g 37 37 _ (0,0) _ b underlying37 rfl Tryz.infoLens];rfl
def lz:gR:=⟨ik,0,0,0,0,[],[],[],[]⟩
def ij:iJ:=⟨none,0,0⟩
def iF(ws:List (List UInt8)):List UInt8:=nN ws++[10]
def kO:List (List UInt8):=[[99,117,114,118],[99,111,110,105,99],[99,117,114,118,120],[99,111,110,105,99,120],[97,115,112,104,52],[97,115,112,104,54],[97,115,112,104,56],[97,115,112,104,49,48],[116,104,105,99,107],[115,101,109,105],[100,120],[100,121],[97,120],[97,121],[97,122],[112,104,97,115,101,50],[112,104,97,115,101,52]]
def kP:List (List UInt8):=[[115,116,97,110,100,97,114,100],[98,105,99,111,110,105,99],[98,114,101,97,107],[105,100,101,97,108]]
def kV:List (List UInt8):=[[108,101,110,115],[111,98,106,101,99,116],[112,117,112,105,108],[115,116,111,112],[112,114,105,109,97,114,121],[102,105,101,108,100],[119,97,118,101],[115,117,114,102,97,99,101],[99,111,110,102,105,103],[101,110,100]]
def xZ:List UInt8:=[108,101,110,115]
def sO:List UInt8:=[111,98,106,101,99,116]
def vA:List UInt8:=[112,117,112,105,108]
def Aa:List UInt8:=[115,116,111,112]
def qJ:List UInt8:=[112,114,105,109,97,114,121]
def vB:List UInt8:=[102,105,101,108,100]
def Ab:List UInt8:=[119,97,118,101]
def nq:List UInt8:=[115,117,114,102,97,99,101]
def mc:List UInt8:=[99,111,110,102,105,103]
def Fp:List UInt8:=[101,110,100]
def lG:List UInt8:=[102,105,108,109]
def lB:List UInt8:=[104,111,108,101]
def kj:List UInt8:=[111,114,100,101,114]
def lP:List UInt8:=[103,108,97,115,115]
def lj:List UInt8:=[99,104,97,110,103,101]
def lQ:List UInt8:=[105,110,102,105,110,105,116,121]
def oo(p:Nat):Nat:=if p=1\/p=3 then 9 else if 16<=p then 3 else 6
def km(p:Nat):List UInt8:=kO.getD (p-1) []
def VX(b:ByteArray):List UInt8:=b.data.toList
def Ld(s:gW)(p:Nat):List UInt8:=if s.get (p:Int)=0 then[]else iF [km p,iz (s.get (p:Int)) (oo p)]
def ub(s:gW)(a n:Nat):List UInt8:=((List.range n).map fun i=>Ld s (a+i)).flatten
def V3(zs:List Int)(i:Nat):List UInt8:=iF [lG,iz (zs.getD (i*3) 0) 7,iz (zs.getD (i*3+1) 0) 0,iz (zs.getD (i*3+2) 0) 0]
def oq(x:gM):List UInt8:=
 iF [nq,kP.getD (x.s.kind-1).toNat []]++ub x.s 1 10++(if x.s.i7=0 then[]else iF [lB,iz x.s.i7 6])++ub x.s 11 5
  ++(if x.s.order=0 then[]else iF [kj,iz x.s.order 0])++ub x.s 16 2++(if VX x.s.gA=[]then[]else iF [lP,VX x.s.gA])
  ++((List.range (x.zs.length/3)).map (V3 x.zs)).flatten
def mK(zs:List Int)(i:Nat):List UInt8:=iF [lj,iz (zs.getD (i*3) 0) 0,km (zs.getD (i*3+1) 0).toNat,iz (zs.getD (i*3+2) 0) (oo (zs.getD (i*3+1) 0).toNat)]
def ot(c:jd):List UInt8:=iF [mc,VX c.nm]++((List.range (c.zs.length/3)).map (mK c.zs)).flatten
def nE(fs:List Int)(i:Nat):List UInt8:=iF [vB,iz (fs.getD (i*2) 0) 6,iz (fs.getD (i*2+1) 0) 6]
def qK(ws:List Int)(i:Nat):List UInt8:=iF [Ab,iz (ws.getD (i*2) 0) 3,iz (ws.getD (i*2+1) 0) 0]
def Fq(x:gR):List UInt8:=iF [xZ,VX x.nm]++iF [sO,if x.i9=0 then lQ else iz x.i9 6]++iF [vA,iz x.pb 6]++iF [Aa,iz x.stop 0]++iF [qJ,iz x.p9 0]
def nO(x:gR):List UInt8:=
 Fq x++((List.range (x.fs.length/2)).map (nE x.fs)).flatten++((List.range (x.ws.length/2)).map (qK x.ws)).flatten++(x.l.map oq).flatten++(x.cf.map ot).flatten++iF [Fp]
def VZ(w:List UInt8)(d:Nat):Option Int:=if Fj w d=0 then some (Fi w d)else none
def kF:List (List UInt8)->List Nat->Option (List Int)
 |[],[]=>some []
 |w::ws,d::ds=>match VZ w d with
  |none=>none
  |some n=>match kF ws ds with
   |none=>none
   |some a=>some (n::a)
 |_,_=>none
def rD(w:List UInt8):Option Nat:=(kO.findIdx? (· ==w)).map (· +1)
structure jL where
 x:gR
 at_:Int
 seen:List (List UInt8)
def lJ(k:Nat):gM:=⟨⟨(k:Int),0,0,0,0,0,0,0,0,0,0,0,0,⟨#[]⟩,0,0,0,0,0,0,0⟩,[]⟩
def jk(x:gR)(k:Nat)(w:List (List UInt8)):Option gR:=
 match k,w with
 |0,[v]=>some {x with nm:=bs v}
 |1,[v]=>if v=lQ then some x else(VZ v 6).map fun n=>{x with i9:=n}
 |2,[v]=>(VZ v 6).map fun n=>{x with pb:=n}
 |3,[v]=>(VZ v 0).map fun n=>{x with stop:=n}
 |4,[v]=>(VZ v 0).map fun n=>{x with p9:=n}
 |5,w=>(kF w [6,6]).map fun a=>{x with fs:=x.fs++a}
 |6,w=>(kF w [3,0]).map fun a=>{x with ws:=x.ws++a}
 |7,[v]=>(kP.findIdx? (· ==v)).map fun i=>{x with l:=x.l++[lJ (i+1)]}
 |8,[v]=>some {x with cf:=x.cf++[⟨bs v,[]⟩]}
 |9,[]=>some x
 |_,_=>none
def Dv(v:List UInt8):Option Nat:=match rD v with
 |some p=>some (oo p)
 |none=>if v=lB then some 6 else if v=kj then some 0 else none
def Ac(s:gW)(v:List UInt8)(n:Int):gW:=match rD v with
 |some p=>s.put (p:Int) n
 |none=>if v=lB then{s with i7:=n} else{s with order:=n}
def Ad(y:gM)(w:List (List UInt8)):Option gM:=
 match w with
 |[]=>none
 |f::ws=>
  if f=lG then(kF ws [7,0,0]).map fun a=>{y with zs:=y.zs++a}
  else match ws with
   |[v]=>if f=lP then some {y with s:={y.s with gA:=bs v}} else
     match Dv f with
     |none=>none
     |some d=>(VZ v d).map fun n=>{y with s:=Ac y.s f n}
   |_=>none
def sP(c:jd)(w:List (List UInt8)):Option jd:=
 match w with
 |[_,a,p,v]=>match rD p with
  |none=>none
  |some q=>match VZ a 0 with
   |none=>none
   |some i=>(VZ v (oo q)).map fun n=>{c with zs:=c.zs++[i,(q:Int),n]}
 |_=>none
def ou{α:Type}(l:List α)(f:α->Option α):Option (List α):=match l.getLast? with
 |none=>none
 |some y=>(f y).map fun z=>l.dropLast++[z]
def kp(r:jL)(w:List (List UInt8)):Option jL:=
 if r.at_=9 then none else
 match w with
 |[]=>some r
 |f::ws=>
  match kV.findIdx? (· ==f)with
  |some k=>
   if(k:Int)=r.at_+1\/(5<=k/\4<=r.at_/\r.at_<=(k:Int))then(jk r.x k ws).map fun y=>⟨y,(k:Int),[]⟩else none
  |none=>
   if r.at_=7 then
    (if f≠lG/\f∈r.seen then none else(ou r.x.l fun y=>Ad y (f::ws)).map fun l=>⟨{r.x with l:=l},7,if f=lG then r.seen else r.seen++[f]⟩)
   else if r.at_=8/\f=lj then(ou r.x.cf fun c=>sP c (f::ws)).map fun cf=>⟨{r.x with cf:=cf},8,r.seen⟩
   else none
def V9:List (List UInt8)->Bool
 |[]=>true
 |w::_=>w.head?==some 35
def lR:Nat->jL->List (List UInt8)->Except Nat jL
 |_,r,[]=>.ok r
 |i,r,s::ss=>if V9 (iA [] s)then lR (i+1) r ss else match kp r (iA [] s)with
  |none=>.error (i+1)
  |some q=>lR (i+1) q ss
def mG:gR:=⟨⟨#[]⟩,0,0,0,0,[],[],[],[]⟩
def Ae:jL:=⟨mG,-1,[]⟩
structure PP where
 x:gR
 line:Int
 e:Int
def nr(t:List UInt8):PP:=
 if 20000<t.length then⟨mG,0,3⟩else
 match lR 0 Ae (io [] t)with
 | .error i=>⟨mG,(i:Int),5⟩
 | .ok r=>if r.at_≠9 then⟨mG,((io [] t).length:Int),5⟩else if iI r.x=true then⟨r.x,0,0⟩else⟨mG,0,120⟩
def MR{l:List gM}{i p:Int}(h:qx l i p=true):∃(k:Nat)(y:gM),i=(k:Int)/\k<l.length/\l[k]? =some y/\tr y=true/\tt y.s p=true:=by
 unfold qx at h;simp only[am]at h;obtain⟨⟨h1,h2⟩,_⟩:=h
 have h1:0<=i/\i<=(l.length:Int)-1:=by simpa[bt]using h1
 obtain⟨k,rfl⟩:∃k:Nat,i=(k:Int):=⟨i.toNat,by omega⟩
 have a:k<l.length:=by omega
 unfold Eq at h2;rw[aI,ae a]at h2;simp only[vl,am]at h2;exact⟨k,l[k],rfl,a,ae a,h2.1,h2.2⟩

def iX:Ending:=.panicked [{v:=.iface 160 (.agg #[]),recovered:=false}]
def kW(w:World):Calls prog 82 #[true] w fun e w'=>e=.returned (.tuple #[])/\w=w':=by
 go_enter func82,ntmps82;go_wp2;go_end0;exact⟨rfl,rfl⟩
def lm(w:World):Calls prog 82 #[false] w fun e w'=>e=iX/\w=w':=by
 go_enter func82,ntmps82;go_wp2_with fail;exact⟨rfl,rfl,rfl⟩
def JL(ws:List (List UInt8))(e:Ending):Prop:=match ws with
 |[v]=>e=.returned (.string (bs v))
 |_=>e=iX
def nF(ws:List (List UInt8))(a:Option Addr)(n c B:Nat)(w:World)(h:ua w a n c ws B):Calls prog 307 #[Z a n c] w fun e w'=>JL ws e/\w=w':=by
 have b:=h.1
 match ws,b,h with
 |[],b,h=>
  obtain rfl:n=0:=b.symm;clear h;go_enter func307,ntmps307;go_wp2_with fail;refine(lm w).mono ?_;rintro e f ⟨rfl,rfl⟩;unfold iX;go_wp2_with fail;exact⟨rfl,rfl,rfl⟩
 |[v],b,h=>
  obtain rfl:n=1:=b.symm;obtain⟨g,off,rfl,k,d⟩:=h.2.2 (by omega);have c0:w.cell? ⟨g,off,none⟩=some (.string (bs v)):=d 0 v rfl;have i:=h.2.1;clear d h b;go_enter func307,ntmps307;go_wp2_with fail;refine(kW w).mono ?_;rintro e f ⟨rfl,rfl⟩;go_wp2;go_ret;exact⟨rfl,rfl⟩
 |v::u::r,b,h=>
  have j:n=r.length+2:=by rw[<- b];simp
  have h1:((n:Int)==1)=false:=by rw[ak];omega
  clear h b j;go_enter func307,ntmps307;go_wp2_with fail;refine(lm w).mono ?_;rintro e f ⟨rfl,rfl⟩;unfold iX;go_wp2_with fail;exact⟨rfl,rfl,rfl⟩
def kX(l:List UInt8)(d:Nat)(e:Ending):Prop:=match VZ l d with
 |some n=>e=.returned (.int .i64 n)
 |none=>e=iX
def mL(l:List UInt8)(d:Nat)(w:World)(m:l.length<=100000)(k:d<=18)(i:GW w):Calls prog 176 #[.string (bs l),.int .i64 (d:Int)] w fun e w'=>kX l d e/\Below w w w':=by
 go_enter func176,ntmps176;go_wp2_with fail;refine(DA l d w m k i).mono ?_;rintro e j ⟨rfl,hb⟩;by_cases a:Fj l d=0
 .have g:VZ l d=some (Fi l d):=by unfold VZ;rw[aq a]
  have f:kX l d (.returned (.int .i64 (Fi l d))):=by unfold kX;rw[g]
  rw[a];have h:=O hb;have b:=O f;clear hb a g f i;go_wp2_with fail;refine(kW j).mono ?_;rintro e n ⟨rfl,rfl⟩;go_wp2;go_ret;exact⟨b,h⟩
 .have g:VZ l d=none:=by unfold VZ;rw[aj a]
  have f:kX l d iX:=by unfold kX;rw[g]
  have h0:(Fj l d==0)=false:=by rw[ak];exact a
  have h:=O hb;have b:=O f;clear hb a g f i;go_wp2_with fail;refine(lm j).mono ?_;rintro e n ⟨rfl,rfl⟩;have c:=b.out;unfold iX at c⊢;have b:=O c;clear c;go_wp2_with fail;exact⟨rfl,b,h⟩
def An:∀(ws:List (List UInt8))(ds:List Nat)(k:Nat)(zs:List Int)(x:List UInt8)(d:Nat)(n:Int),ws[k]? =some x->ds[k]? =some d->kF (ws.take k) (ds.take k)=some zs->VZ x d=some n->kF (ws.take (k+1)) (ds.take (k+1))=some (zs++[n])
 |[],_,k,_,_,_,_,h,_,_,_=>by simp at h
 |_::_,[],k,_,_,_,_,_,h,_,_=>by simp at h
 |w::ws,e::ds,0,zs,x,d,n,h1,h2,h3,h4=>by
  simp only[eS,bA]at h1 h2;subst h1;subst h2;simp only[dU,kF,bA]at h3;subst h3;simp[kF,h4]
 |w::ws,e::ds,k+1,zs,x,d,n,h1,h2,h3,h4=>by
  simp only[cS]at h1 h2;rw[dI,dI,kF]at h3⊢
  cases hv:VZ w e with
  |none=>rw[hv]at h3;cases h3
  |some m=>
   rw[hv]at h3
   cases hr:kF (ws.take k) (ds.take k)with
   |none=>rw[hr]at h3;cases h3
   |some a=>
    rw[hr]at h3;simp only[bA]at h3;subst h3;simp only[An ws ds k a x d n h1 h2 hr h4];rfl
def Ao:∀(ws:List (List UInt8))(ds:List Nat)(k:Nat)(x:List UInt8)(d:Nat),ws[k]? =some x->ds[k]? =some d->VZ x d=none->kF ws ds=none
 |[],_,k,_,_,h,_,_=>by simp at h
 |_::_,[],k,_,_,_,h,_=>by simp at h
 |w::ws,e::ds,0,x,d,h1,h2,h3=>by
  simp only[eS,bA]at h1 h2;subst h1;subst h2;rw[kF,h3]
 |w::ws,e::ds,k+1,x,d,h1,h2,h3=>by
  simp only[cS]at h1 h2;rw[kF,Ao ws ds k x d h1 h2 h3];cases VZ w e<;>rfl
def qj:∀(ws:List (List UInt8))(ds:List Nat)(zs:List Int),kF ws ds=some zs->zs.length=ws.length/\ws.length=ds.length
 |[],[],zs,h=>by simp only[kF,bA]at h;subst h;exact⟨rfl,rfl⟩
 |[],_::_,_,h=>by cases h
 |_::_,[],_,h=>by cases h
 |w::ws,e::ds,zs,h=>by
  rw[kF]at h
  cases hv:VZ w e with
  |none=>rw[hv]at h;cases h
  |some m=>
   rw[hv]at h
   cases hr:kF ws ds with
   |none=>rw[hr]at h;cases h
   |some a=>
    rw[hr]at h;simp only[bA]at h;subst h;obtain⟨h1,h2⟩:=qj ws ds a hr;exact⟨by simp[h1],by simp[h2]⟩
def NB{ws:List (List UInt8)}{ds:List Nat}(h:ws.length≠ds.length):kF ws ds=none:=by
 cases hr:kF ws ds with
 |none=>rfl
 |some zs=>exact absurd (qj ws ds zs hr).2 h
def mu(w:World)(ws:List (List UInt8))(ds:List Nat)(e:Ending)(w':World):Prop:=match kF ws ds with
 |some zs=>(∃a c,e=.returned (.slice a zs.length c)/\SL w' w' a zs.length c zs/\ ∀b,(Value.slice a zs.length c).ownBlock=some b->w.heap.size<=b)/\Below w w w'
 |none=>e=iX/\Below w w w'
def DB{w w':World}{ws:List (List UInt8)}{ds:List Nat}{zs:List Int}{e:Ending}(h:kF ws ds=some zs)(h1:∃a c,e=.returned (.slice a zs.length c)/\SL w' w' a zs.length c zs/\ ∀b,(Value.slice a zs.length c).ownBlock=some b->w.heap.size<=b)(h2:Below w w w'):mu w ws ds e w':=by
 unfold mu;rw[h];exact⟨h1,h2⟩
def wD{w w':World}{ws:List (List UInt8)}{ds:List Nat}{e:Ending}(h:kF ws ds=none)(h1:e=iX)(h2:Below w w w'):mu w ws ds e w':=by
 unfold mu;rw[h];exact⟨h1,h2⟩
def RA{w:World}{base:Nat}{v:Value}{n:Nat}{zs:List Int}(h:w.ownsRow base 3 1 v n (zs.map (Value.int .i64))):∃a c,v=.slice a zs.length c/\SL w w a zs.length c zs:=by
 have f:=h.1;rw[aU,dn]at f;subst f
 rcases(mz h).2 with⟨rfl,h0⟩|⟨g,cap,rfl,i,d,b⟩
 .have:zs=[]:=aX.1 h0
  subst this;exact⟨none,0,rfl,SL.nil _ _ _ _⟩
 .refine⟨some ⟨g,0,none⟩,cap,rfl,rfl,d,fun _=>⟨g,0,rfl,b.lt,fun j e=>?_⟩⟩
  rw[aV,b.cell (j:=j) (by rw[aU];exact e)];simp[ah,ae e]
def sS(ws:List (List UInt8))(ds:List Nat)(a b:Option Addr)(n m c c':Nat)(w:World)(h:ua w a n c ws w)(X:SL w w b m c' (ds.map fun(d:Nat)=>(d:Int)))(hn:n<=100000)(hm:m<=100)(Q:∀s∈ws,s.length<=100000)(N:∀d∈ds,d<=18)(hg:GW w):
 Calls prog 174 #[Z a n c,Z b m c'] w (mu w ws ds):=by
 have hl:=h.1
 have P:m=ds.length:=by rw[X.1];simp
 by_cases b3:n=m
 .subst b3
  have H:=O h;have Hs:=O X;have Hg:=O hg;have b1:=O Q;have a8:=O N;have Hl:=O hl;have a0:=O P;clear h X hg Q N hl P;go_enter func174,ntmps174;go_wp2_with fail;refine(kW w).mono ?_;rintro e w1 ⟨rfl,rfl⟩;go_upto_region 4 with fail
  go_loopw [5,16] (fun v iv wr=>∃(k:Nat)(zs:List Int),k<=n/\iv=.int .i64 (k:Int)/\wr.ownsRow w 3 1 v k (zs.map (Value.int .i64))/\kF (ws.take k) (ds.take k)=some zs/\Below w w wr) (fun _ iv _=>n-(intOf iv).toNat)
  case atStart=>exact⟨0,[],aA _,rfl,⟨rfl,VR ⟨rfl,rfl⟩⟩,rfl,TH _ _⟩
  case round=>
   obtain⟨k,zs,hk,rfl,t,u,hb⟩:=hrel;obtain⟨va,vc,rfl,a5⟩:=RA t;have A:=O t;have Hv:=O u;have i:=O hb;have a9:=O a5;clear t u hb a5;by_cases b2:k<n
   .obtain⟨x,hx⟩:∃x,ws[k]? =some x:=⟨ws[k]'(by have:=Hl.out;omega),ae _⟩
    obtain⟨d,S⟩:∃d,ds[k]? =some d:=⟨ds[k]'(by have:=a0.out;omega),ae _⟩;obtain⟨g,off,rfl,hgl,hc⟩:=H.2.2 (by omega);have c0:wr.cell? ⟨g,off+k,none⟩=some (.string (bs x)):=(i.cell (p:=⟨g,off+k,none⟩) hgl).trans (hc k x hx);obtain⟨g2,C,rfl,W,a1⟩:=Hs.at (by omega)
    have c1:wr.cell? ⟨g2,C+k,none⟩=some (.int .i64 (d:Int)):=by
     refine(i.cell (p:=⟨g2,C+k,none⟩) W).trans ((a1 k b2).trans ?_);rw[ah,aR,S];rfl
    clear hc a1;have b5:x.length<=100000:=b1 x (aL hx);have T:d<=18:=a8 d (aL S);have Hx:=O hx;have Hd:=O S;clear hx S;go_wp2_with fail;refine(mL x d wr b5 T (Hg.below i)).mono ?_;rintro e y ⟨K,o⟩
    cases hvx:VZ x d with
    |none=>
     have r:=Ao ws ds k x d Hx Hd hvx;unfold kX at K;rw[hvx]at K;subst K;have F:=O (wD r rfl (i.trans (o.mono i.size)));clear hvx r o c0 c1;have f:=F.out;unfold iX at f⊢;have L:=O f;clear f F;go_wp2_with fail;exact⟨rfl,L⟩
    |some z=>
     have b0:=O (An ws ds k zs x d z Hx Hd Hv hvx);unfold kX at K;rw[hvx]at K;subst K;have l:=O (kD A o);have a6:=O (i.trans (o.mono i.size));have b4:=(i.trans (o.mono i.size)).size;clear hvx o c0 c1;have a3:=TL y (.cells #[z] 3);have M:=(TH y y).alloc (ag _) (.cells #[z] 3)
     have B:SL (y.alloc (.cells #[z] 3)).heap.size (y.alloc (.cells #[z] 3)) (J (y.heap.size)) 1 1 [z]:=by
      refine⟨rfl,ag _,fun _=>⟨y.heap.size,0,rfl,by simp,fun j hj=>?_⟩⟩
      obtain rfl:j=0:=by omega
      exact VV a3 0
     have D:=O (kD l M);have R:=O B;have b7:=O M;clear a3 M B
     go_wp2_with(refine ju rfl (.tmp 21) (.tmp 28) 109 rfl underlying109 w _ k zs rfl D _ _ 1 1 [z] rfl R (by intro e;cases e) (by omega) (by simp;omega) ?_;intro v' w3 q a2)
     have a7:=O (show Below w w w3 from jF a6 l a2 (ag _) b4);have E:=O q;clear q a2
     go_roundw
     case rel=>exact⟨k+1,zs++[z],by omega,by go_num,E,b0,a7⟩
     case measure=>simp[intOf];omega
   .obtain rfl:k=n:=by omega
    have u:=Hv.out;rw[aM (by have:=Hl.out;omega),aM (by have:=a0.out;omega)]at u;have b6:=qj ws ds zs u;have F:=O (show mu w ws ds (.returned (.slice va zs.length vc)) wr from DB u ⟨va,vc,rfl,a9,fun b hb=>(A.lt b hb).1⟩ i);clear u b6;go_wp2;go_ret;exact F
 .have a4:ws.length≠ds.length:=by omega
  have hr:∀w',Below w w w'->mu w ws ds iX w':=fun w' hb=>wD (NB a4) rfl hb
  have h0:((n:Int)==(m:Int))=false:=by rw[ak];omega
  have F:=O hr;clear h X hg Q N hl P a4 hr;go_enter func174,ntmps174;go_wp2_with fail;refine(lm w).mono ?_;rintro e w1 ⟨rfl,rfl⟩;have f:=F w (TH _ _);unfold iX at f⊢;have L:=O f;clear f;go_wp2_with fail;exact⟨rfl,L⟩
def Pp(w:World)(l:List gM)(i p v:Int)(e:Ending)(w':World):Prop:=
 (nT l i p v=false/\e=.returned (.tuple #[oN,false])/\Below w w w')\/
 (nT l i p v=true/\ ∃g c,e=.returned (.tuple #[Z (J g) l.length c,true])/\oJ w w' (.slice (J g) l.length c) (qy l i p v)/\Below w w w')
def Kn(s:gW)(zs:List Int)(p v:Int)(a:Option Addr)(n c:Nat)(w:World)(g:IR w w 3 a n c zs)(f:n<=1000000)(b:a=none->c=0)(d:s.gA.size<=9223372036854775807)(h1:(mw s zs n p v==0)=false):
 Calls prog 128 #[.agg (⟨s,a,n,c⟩:jt),p,v] w (fun e w'=>e=.returned (.tuple #[.agg zS,.int .i64 (mw s zs n p v)])/\Below w w w'):=
 (zr s zs p v a n c w g f b d).mono (by
   rintro e w' (⟨_,h,hb⟩|⟨h0,_⟩)
   .exact⟨h,hb⟩
   .rw[h0]at h1;simp at h1)
def GK(s:gW)(zs:List Int)(p v:Int)(a:Option Addr)(n c:Nat)(w:World)(i:IR w w 3 a n c zs)(g:n<=1000000)(d:a=none->c=0)(f:s.gA.size<=9223372036854775807)(h1:mw s zs n p v=0):
 Calls prog 128 #[.agg (⟨s,a,n,c⟩:jt),p,v] w (fun e w'=>∃a c,e=.returned (.tuple #[.agg #[.int .i64 (s.put p v).kind,.int .i64 (s.put p v).r9,.int .i64 (s.put p v).i4,.int .i64 (s.put p v).i5,.int .i64 (s.put p v).cm,.int .i64 (s.put p v).a0,.int .i64 (s.put p v).a1,.int .i64 (s.put p v).a2,.int .i64 (s.put p v).a3,.int .i64 (s.put p v).p0,.int .i64 (s.put p v).p1,.int .i64 (s.put p v).order,.int .i64 (s.put p v).tg,.string (s.put p v).gA,.int .i64 (s.put p v).i6,.int .i64 (s.put p v).i7,.int .i64 (s.put p v).dx,.int .i64 (s.put p v).dy,.int .i64 (s.put p v).ax,.int .i64 (s.put p v).ay,.int .i64 (s.put p v).az,Z a n c],oZ])/\jN (fun b=>w.heap.size<=b/\b<w'.heap.size) w' a n c zs/\(a=none->c=0)/\Below w w w'):=
 (zr s zs p v a n c w i g d f).mono (by
   rintro e w' (⟨h,_⟩|⟨_,h⟩)
   .exact absurd h1 h
   .exact h)
def Ko(l:List gM)(a:Option Addr)(n c:Nat)(w:World)(h:RR jE 22 (fun b=>b<w.heap.size) w a n c l)(i:n<=1000000)(h0:0<l.length):
 Calls prog 85 #[Z a n c] w (fun e w'=>∃g c,e=.returned (.slice (J g) l.length c)/\oJ w w' (.slice (J g) l.length c) l/\Below w w w'):=
 (zu l a n c w h i).mono (by
   rintro e w' ⟨v,rfl,d,hb⟩
   obtain ⟨rfl,f⟩|⟨g,cap,rfl,_⟩:=d.r.form
   .rw[f]at h0;simp at h0
   .exact⟨g,cap,rfl,d,hb⟩)
def Kp{s:gW}{zs:List Int}{n:Nat}{p v:Int}(h0:mw s zs n p v=0)(c:s.gA.size<=9223372036854775807):(s.put p v).gA.size<=9223372036854775807:=by
 obtain⟨_,b⟩:=vm (show nj s zs n p=0 from by
  apply bg;intro a
  unfold mw at h0;rw[aj a]at h0;exact a h0)
 obtain⟨d,e⟩:=oM b
 obtain rfl|rfl|rfl|rfl|rfl|rfl|rfl|rfl|rfl|rfl|rfl|rfl|rfl|rfl|rfl|rfl|rfl:=oL d e<;>exact c
def UW(l:List gM)(a:Option Addr)(n c:Nat)(i p v:Int)(w:World)(h:RR jE 22 (fun b=>b<w.heap.size) w a n c l)(hn:n<=1000000):
 Calls prog 86 #[Z a n c,i,p,v] w (Pp w l i p v):=by
 have u:=h.1;have H:=O h;clear h;go_enter func86,ntmps86
 cases hh:qx l i p with
 |false=>
  have d:nT l i p v=false:=by unfold nT;rw[hh];rfl
  have Hh:=O hh;have g:=O d;clear hh d
  go_wp2_with((with_reducible refine(Ex l _ n c i p _ H.out hn).mono ?_);rintro e w2 ⟨S,hb⟩;rw[Hh.out]at S;subst S;have b9:=O hb;clear hb)
  go_ret2;exact VR ⟨g.out,rfl,b9.out⟩
 |true=>
  have c3:0<=i/\i<=(n:Int)-1:=by
   unfold qx at hh;simp only[am]at hh;have:=hh.1.1;rw[u]at this;simpa[bt]using this
  obtain⟨k,rfl⟩:∃k:Nat,i=(k:Int):=⟨i.toNat,by omega⟩
  have c4:k<n:=by omega
  have T:k<l.length:=by omega
  have Hh:=O hh;clear hh c3;obtain⟨b,off,x,cs,rfl,hlt,hx,⟨a2,f,c2,rfl,hz,X,b3,b4⟩,L⟩:=H.out.at c4;have a7:=O (mU hz);have Hz:=O (hz.ir (fun _ h=>h));have R:=O b4;have a6:=O b3;have F:=O L;have Hx:=O hx;have HL:=O u;clear hz b4 b3 L hx
  go_upto_region 3 with((with_reducible refine(Ex l _ n c k p _ H.out hn).mono ?_);rintro e w2 ⟨S,hb⟩;rw[Hh.out]at S;subst S;have B:=O hb;clear hb)
  have a5:mw x.s x.zs f p v=0\/(mw x.s x.zs f p v==0)=false:=by
   by_cases h:mw x.s x.zs f p v=0
   .exact VR h
   .exact VS (by simpa using h)
  obtain h0|h1:=a5
  .have d:nT l k p v=true:=by unfold nT;rw[Hh.out,aI,Hx.out];simp only;rw[<- a7.out];simp[h0]
   have t:qy l k p v=l.set k ⟨x.s.put p v,x.zs⟩:=by unfold qy;rw[aI,Hx.out];simp[d]
   have H0:=O h0;have g:=O d;have N:=O t;clear h0 d t u;have c0:=O (Kp H0.out R.out)
   go_upto_region 4 with(first
    |(refine lw (jb F.out (gE B.out) hlt) rfl (.tmp 21) rfl rfl ?_)
    |((with_reducible refine(GK x.s x.zs p v a2 f c2 _ (Hz.out.go B.out) X a6.out R.out H0.out).mono ?_);rintro e w3 ⟨a',c',rfl,hi,b2,A⟩;have Hi:=O hi;have c7:=O b2;have E:=O A;clear hi b2 A)
    |(refine lC (x.s.put p v) a' f c' _ rfl rfl (.tmp 10) (.tmp 26) rfl rfl rfl ?_))
   have K:=gY (o:=.cells #[.int .i64 (x.s.put p v).kind,.int .i64 (x.s.put p v).r9,.int .i64 (x.s.put p v).i4,.int .i64 (x.s.put p v).i5,.int .i64 (x.s.put p v).cm,.int .i64 (x.s.put p v).a0,.int .i64 (x.s.put p v).a1,.int .i64 (x.s.put p v).a2,.int .i64 (x.s.put p v).a3,.int .i64 (x.s.put p v).p0,.int .i64 (x.s.put p v).p1,.int .i64 (x.s.put p v).order,.int .i64 (x.s.put p v).tg,.string (x.s.put p v).gA,.int .i64 (x.s.put p v).i6,.int .i64 (x.s.put p v).i7,.int .i64 (x.s.put p v).dx,.int .i64 (x.s.put p v).dy,.int .i64 (x.s.put p v).ax,.int .i64 (x.s.put p v).ay,.int .i64 (x.s.put p v).az,Z a' f c'] 58) (TH w3 w3);refine gI (fun D=>Y D w3 (x.s.put p v) a' f c'/\Below w w D/\jN (fun b=>w.heap.size<=b/\b<D.heap.size) D a' f c' x.zs) ⟨Y.new w3 (x.s.put p v) a' f c',I B.out (I E.out K),Hi.out.kept ((gE K).mono (fun b hb=>hb.2)) (fun b hb=>⟨af B.out.size hb.1,eb hb.2 K.size⟩)⟩ ?_;clear K E Hi;rintro w4 ⟨hs,b0,hi⟩;have c6:=hs.lt;have Hs:=O hs;have Q:=O b0;have Hi:=O hi;clear hs b0 hi
   go_upto_region 7 with((with_reducible refine(Ko l _ n c _ (H.out.go iD Q.out) hn (cX (aA k) T)).mono ?_);rintro e w5 ⟨P,c5,rfl,ho,b1⟩;have Ho:=O ho;have z:=O b1;clear ho b1)
   have c8:w4.heap.size<=P:=by
    obtain ⟨e,_⟩|⟨g',_,e,q,_⟩:=Ho.out.r.form
    .cases e
    .cases e;exact q
   obtain⟨lq,W,C,a9,M⟩:=Ho.out
   have b6:k<lq.length:=by rw[<- mD,W];exact T
   have a4:=Q.out.size;have b8:rL (fun b=>w.heap.size<=b/\b<w5.heap.size/\b≠P) w5 ⟨⟨x.s.put p v,x.zs⟩,w.heap.size,w4.heap.size⟩ (gX (x.s.put p v) a' f c'):=⟨a',f,c',rfl,Hi.out.kept ((gE z.out).mono (fun b hb=>hb.2)) (fun b hb=>⟨⟨hb.1,eb hb.2 z.out.size,by have:=hb.2;omega⟩,hb⟩),X,c0.out⟩
   have b7:oJ w (w5.setCells P (k*22) (gX (x.s.put p v) a' f c')) (.slice (J P) l.length c5) (l.set k ⟨x.s.put p v,x.zs⟩):=
    ⟨_,by rw[El,W],(C.down jX a4).set jX b6 b8,a9.set (fun j y hy _=>VS (M y (aL hy)).1),(fun q C=>by
      rw[im]
      obtain C|rfl:=bH C
      .exact⟨af a4 (M q C).1,(M q C).2⟩
      .exact⟨ag _,a4,z.out.size⟩)⟩
   have a8:=O b7;clear b7 b8 W C a9 M b6
   go_wp2_with(first
    |(refine gO (Hs.out.go z.out c6) rfl (.tmp 10) rfl rfl ?_)
    |(refine pX (x.s.put p v) a' f c' (Ho.out.r.there T) rfl _ _ rfl rfl rfl ?_;refine jJ (fun D=>oJ w D (.slice (J P) l.length c5) (l.set k ⟨x.s.put p v,x.zs⟩)/\Below w w D) ⟨a8.out,ig (by omega) _ _ (I Q.out z.out)⟩ ?_;clear Hs Ho a8;rintro w6 ⟨h6,b5⟩;have H6:=O h6;have c1:=O b5;clear h6 b5))
   go_ret2;exact VS ⟨g.out,P,c5,rfl,by rw[N.out];exact H6.out,c1.out⟩
  .have d:nT l k p v=false:=by unfold nT;rw[aI,Hx.out];simp only;rw[<- a7.out];simp at h1;simp[h1]
   have g:=O d;clear d
   go_wp2_with(first
    |(refine lw (jb F.out (gE B.out) hlt) rfl (.tmp 21) rfl rfl ?_)
    |((with_reducible refine(Kn x.s x.zs p v a2 f c2 _ (Hz.out.go B.out) X a6.out R.out h1).mono ?_);rintro e w3 ⟨rfl,A⟩;have E:=O A;clear A;generalize mw x.s x.zs f p v=m at*)
    |(refine lC ⟨0,0,0,0,0,0,0,0,0,0,0,0,0,ik,0,0,0,0,0,0,0⟩ none 0 0 _ rfl rfl (.tmp 10) (.tmp 26) rfl rfl rfl ?_))
   go_ret2;exact VR ⟨g.out,rfl,I B.out (gY E.out)⟩
def QB:Nat->FuncId
 |0=>278
 |1=>279
 |2=>280
 |3=>281
 |4=>282
 |5=>283
 |6=>284
 |7=>285
 |8=>286
 |9=>287
 |10=>288
 |11=>289
 |12=>290
 |13=>291
 |14=>292
 |15=>293
 |_=>294
def NC(a b:List UInt8):(bs a==bs b)=(a==b):=by
 show(a.toArray==b.toArray)=(a==b)
 simp
abbrev ND:=List (List UInt8×Value)
def rR(l:ND)(nm:List UInt8):Option Value:=(l.find? fun e=>e.1==nm).map (·.2)
def Li(w:World)(b:Nat)(l:ND):Prop:=
 ∃c a,w.heap[b]? =some (.map c a)/\c.toList.map (fun e=>(e.key,e.val))=l.map (fun x=>(Value.string (bs x.1),x.2))
def Li.block{w w':World}{b:Nat}{l:ND}(h:Li w b l)(hb:w'.heap[b]? =w.heap[b]?):Li w' b l:=by
 obtain⟨c,a,h1,h2⟩:=h;exact⟨c,a,hb.trans h1,h2⟩
def Cr(s:List UInt8):∀(l:List MapEntry)(ks:ND)(i:Nat),l.map (fun e=>(e.key,e.val))=ks.map (fun x=>(Value.string (bs x.1),x.2))->
 (∃v,rR ks s=some v/\ ∃j,Instr.findNow .string (.string (bs s)) l i=some (some (j,v)))\/(rR ks s=none/\Instr.findNow .string (.string (bs s)) l i=some none)
 |[],[],i,_=>VS ⟨rfl,rfl⟩
 |[],k::ks,i,h=>by cases h
 |e::l,[],i,h=>by cases h
 |e::l,k::ks,i,h=>by
  simp only[aN,ei,dK]at h;obtain⟨⟨h1,h2⟩,h3⟩:=h;unfold Instr.findNow;rw[h1,h2];simp only[Instr.sameNow,NC];cases e:(s==k.1)
  .have a:(k.1==s)=false:=by rw[ak]at e⊢;exact fun x=>e x.symm
   obtain ⟨v,b,c⟩|⟨b,c⟩:=Cr s l ks (i+1) h3
   .exact VR ⟨v,by unfold rR at*;rw[fP,a];exact b,c⟩
   .exact VS ⟨by unfold rR at*;rw[fP,a];exact b,c⟩
  .have a:(k.1==s)=true:=by rw[dz]at e⊢;exact e.symm
   exact VR ⟨k.2,by unfold rR;rw[fP,a];rfl,i,rfl⟩
def mM{P:Program}{t kt e:TypeId}(k:P.underlying t=some (.map kt e))(a:P.underlying kt=some .string){w:World}{z:Value}(n:(zeroValue e).run P w=.ok z w){b:Nat}{l:ND}(h:Li w b l)(s:List UInt8)(ok:Bool):
 (Instr.lookup t (.map (some b)) (.string (bs s)) ok).run P w=.ok (if ok then .tuple #[(rR l s).getD z,.bool (rR l s).isSome]else(rR l s).getD z) w:=by
 obtain⟨m,f,hb,i⟩:=h
 have g:∀b,(Instr.checkKey b 10000 kt (.string (bs s))).run P w=.ok () w:=fun b=>by
  rw[show(10000:Nat)=9999+1 from rfl,Instr.checkKey,bR,bQ a];rfl
 obtain ⟨v,c,j,d⟩|⟨c,d⟩:=Cr s m.toList l 0 i
 .cases ok<;>simp[Instr.lookup,Instr.findKey,bR,bQ k,bQ a,MapKept.run_getObj_map hb,g,d,c]
 .cases ok<;>simp[Instr.lookup,Instr.findKey,bR,bQ k,bQ a,MapKept.run_getObj_map hb,g,d,c,n]
def Ap(N g:Nat)(w:World)(a:List UInt8->Option Value):Prop:=∃b l,w.cell? (J g)=some (.map (some b))/\b<N/\Li w b l/\ ∀s,rR l s=a s
def Ap.below{N g:Nat}{w w':World}{a:List UInt8->Option Value}(h:Ap N g w a)(d:g<N)(hb:Below N w w'):Ap N g w' a:=by
 obtain⟨b,l,h1,h2,h3,c⟩:=h;exact⟨b,l,(hb.cell (p:=J g) d).trans h1,h2,h3.block (hb.block b h2),c⟩
def Ap.mono{N M g:Nat}{w:World}{a:List UInt8->Option Value}(h:Ap N g w a)(d:N<=M):Ap M g w a:=by
 obtain⟨b,l,h1,h2,h3,c⟩:=h;exact⟨b,l,h1,by omega,h3,c⟩
def yE(s:List UInt8):Option Value:=
 if s=lB then some (.agg #[.string (bs lB),.int .i64 6,.func (.func 295) #[] #[]])else if s=kj then some (.agg #[.string (bs kj),oZ,.func (.func 296) #[] #[]])else none
def RB:Nat->FuncId
 |0=>297
 |1=>298
 |2=>299
 |3=>300
 |4=>301
 |5=>302
 |6=>303
 |7=>304
 |8=>305
 |_=>306
def Fv(s:List UInt8):Option Value:=(kV.findIdx? (· ==s)).map fun k=>.func (.func (RB k)) #[] #[]
structure TW (N:Nat) (w:World):Prop where
 glo:14<=N
 par:∀i,i<17->w.rangeAt 0 (i*3) [.string (bs (kO.getD i [])),.int .i64 (oo (i+1):Int),.func (.func (QB i)) #[] #[]]
 ord:∃a n c,w.cell? (J 3)=some (.slice a n c)/\ua w a n c kV N
 oth:Ap N 2 w yE
 rdr:Ap N 4 w Fv
 kin:∃a n c,w.cell? (J 1)=some (.slice a n c)/\ua w a n c kP N
def TW.below{N:Nat}{w w':World}(h:TW N w)(hb:Below N w w'):TW N w':=by
 refine⟨h.glo,fun i hi j v d=>?_,?_,h.oth.below (eb (show 2<14 by decide) h.glo) hb,h.rdr.below (eb (show 4<14 by decide) h.glo) hb,?_⟩
 .exact(hb.cell (p:=⟨0,i*3+j,none⟩) (eb (show 0<14 by decide) h.glo)).trans (h.par i hi j v d)
 .obtain⟨a,n,c,h1,h2⟩:=h.ord
  exact⟨a,n,c,(hb.cell (p:=J 3) (eb (show 3<14 by decide) h.glo)).trans h1,h2.kept (fun k b=>hb.block k b) (ag _)⟩
 .obtain⟨a,n,c,h1,h2⟩:=h.kin
  exact⟨a,n,c,(hb.cell (p:=J 1) (eb (show 1<14 by decide) h.glo)).trans h1,h2.kept (fun k b=>hb.block k b) (ag _)⟩
def Lj(o:Option Nat):Int:=match o with
 |some i=>(i:Int)
 |none=> -1
def Aq{l:List (List UInt8)}{s:List UInt8}{k:Nat}{x:List UInt8}(b:l[k]? =some x)(a:∀y∈l.take k,(y==s)=false)(h:(x==s)=true):l.findIdx? (· ==s)=some k:=by
 have c:=(TG.1 b).1;rw[fm];refine⟨c,by rw[(TG.1 b).2];exact h,fun j d=>?_⟩;have:=a l[j] (List.mem_take_iff_getElem.2 ⟨j,by omega,rfl⟩);simp[this]
def vC{l:List (List UInt8)}{s:List UInt8}(a:∀y∈l,(y==s)=false):l.findIdx? (· ==s)=none:=by
 rw[List.findIdx?_eq_none_iff];exact a
def JM{l:List (List UInt8)}{s x:List UInt8}{k:Nat}(c:l[k]? =some x)(b:∀y∈l.take k,(y==s)=false)(h:(x==s)=false):∀y∈l.take (k+1),(y==s)=false:=by
 intro y a;have d:=(TG.1 c).1;rw[eK,c]at a
 obtain a|a:=bj.1 a
 .exact b y a
 .simp at a;subst a;exact h
def Ar(l:List (List UInt8))(s:List UInt8)(a:Option Addr)(n c N:Nat)(w:World)(h:ua w a n c l N)(r:N<=w.heap.size)(z:n<=100000):
 Calls prog 121 #[Z a n c,.string (bs s)] w (iZ w (.int .i64 (Lj (l.findIdx? (· ==s))))):=by
 have o:=O (h.1);have H:=O h;clear h;go_enter func121,ntmps121;go_wp2
 go_loopw [8] (fun m wr=>∃k:Nat,k<=n/\m=.int .i64 (k:Int)/\(∀y∈l.take k,(y==s)=false)/\Below w w wr) (fun m _=>n-(intOf m).toNat)
 case atStart=>exact⟨0,aA _,rfl,by simp,TH _ _⟩
 case round=>
  obtain⟨k,v,rfl,b:HQ _,Hb:HQ _⟩:=hrel;by_cases u:k<n
  .obtain⟨x,f⟩:∃x,l[k]? =some x:=⟨l[k]'(by have:=o.out;omega),ae _⟩
   obtain⟨g,off,rfl,hgl,q⟩:=H.2.2 (by omega);have c0:wr.cell? ⟨g,off+k,none⟩=some (.string (bs x)):=(Hb.cell (p:=⟨g,off+k,none⟩) (eb hgl r)).trans (q k x f);clear q;cases hb:(s==x)
   .have d:(x==s)=false:=by rw[ak]at hb⊢;exact fun e=>hb e.symm
    have i:=O (JM f b d);clear f d b;go_wp2
    go_roundw
    case rel=>exact⟨k+1,by omega,by go_num,i,Hb⟩
    case measure=>simp[intOf];omega
   .have d:(x==s)=true:=by rw[dz]at hb⊢;exact hb.symm
    have j:=O (Aq f b d);clear f d b;go_wp2;go_ret;exact⟨by rw[j];rfl,Hb⟩
  .obtain rfl:k=n:=by omega
   have hf:l.findIdx? (· ==s)=none:=vC (fun y t=>b y (by rw[aM (by have:=o.out;omega)];exact t));have j:=O hf;clear hf;go_wp2;go_ret;exact⟨by rw[j];rfl,Hb⟩
def YX:Value:=.agg #[.string (bs (kO.getD 0 [])),.string (bs (kO.getD 1 [])),.string (bs (kO.getD 2 [])),.string (bs (kO.getD 3 [])),.string (bs (kO.getD 4 [])),.string (bs (kO.getD 5 [])),.string (bs (kO.getD 6 [])),.string (bs (kO.getD 7 [])),.string (bs (kO.getD 8 [])),.string (bs (kO.getD 9 [])),.string (bs (kO.getD 10 [])),.string (bs (kO.getD 11 [])),.string (bs (kO.getD 12 [])),.string (bs (kO.getD 13 [])),.string (bs (kO.getD 14 [])),.string (bs (kO.getD 15 [])),.string (bs (kO.getD 16 []))]
def Zh:Value:=.agg #[.string (bs (kP.getD 0 [])),.string (bs (kP.getD 1 [])),.string (bs (kP.getD 2 [])),.string (bs (kP.getD 3 []))]
def YE(i:Nat)(h:i<17)(w:World):(Instr.index 131 YX (.int .i64 (i:Int))).run prog w=.ok (.string (bs (kO.getD i []))) w:=by
 obtain rfl|rfl|rfl|rfl|rfl|rfl|rfl|rfl|rfl|rfl|rfl|rfl|rfl|rfl|rfl|rfl|rfl:i=0\/i=1\/i=2\/i=3\/i=4\/i=5\/i=6\/i=7\/i=8\/i=9\/i=10\/i=11\/i=12\/i=13\/i=14\/i=15\/i=16:=by omega
 all_goals kernel_rfl
def Y3(i:Nat)(h:i<4)(w:World):(Instr.index 156 Zh (.int .i64 (i:Int))).run prog w=.ok (.string (bs (kP.getD i []))) w:=by
 obtain rfl|rfl|rfl|rfl:i=0\/i=1\/i=2\/i=3:=by omega
 all_goals kernel_rfl
def Tryz.infoNames:(prog.info? 131).map (·.size)=some 17:=by kernel_rfl
def Tryz.infoKinds:(prog.info? 156).map (·.size)=some 4:=by kernel_rfl
def YH(w:World):Calls prog 44 #[] w (iZ w YX):=by
 go_enter func44,ntmps44;go_wp2_with fail;refine ar (results_cell_row rfl _ _ w 131 _ (0,0) _ rfl (TL w _) underlying131 rfl Tryz.infoNames) rfl ?_;exact⟨rfl,by(repeat (first|exact TH _ _|apply gY|apply jA|exact below_chain1 (by assumption)|(refine I ?_ (by assumption))|(refine qo ?_ ?_)))⟩
def Y5(w:World):Calls prog 76 #[] w (iZ w Zh):=by
 go_enter func76,ntmps76;go_wp2_with fail;refine ar (results_cell_row rfl _ _ w 156 _ (0,0) _ rfl (TL w _) underlying156 rfl Tryz.infoKinds) rfl ?_;exact⟨rfl,by(repeat (first|exact TH _ _|apply gY|apply jA|exact below_chain1 (by assumption)|(refine I ?_ (by assumption))|(refine qo ?_ ?_)))⟩
def yb(p:Nat)(w:World)(h1:1<=p)(h2:p<=17):Calls prog 45 #[.int .i64 (p:Int)] w (iZ w (.int .i64 (oo p:Int))):=by
 have b:oo p=if p=1\/p=3 then 9 else if 16<=p then 3 else 6:=rfl
 have a:=O b;clear b;go_enter func45,ntmps45;by_cases a1:p=1
 .subst a1
  go_wp2;go_ret;exact⟨rfl,TH _ _⟩
 by_cases a3:p=3
 .subst a3
  go_wp2;go_ret;exact⟨rfl,TH _ _⟩
 have b1:((p:Int)==1)=false:=by rw[ak];omega
 have b3:((p:Int)==3)=false:=by rw[ak];omega
 by_cases c:16<=(p:Int)
 .have e:oo p=3:=by rw[a,aj (by omega),aq (by omega)]
  rw[e];go_wp2;go_ret;exact⟨rfl,TH _ _⟩
 .have e:oo p=6:=by rw[a,aj (by omega),aj (by omega)]
  rw[e];go_wp2;go_ret;exact⟨rfl,TH _ _⟩
def kz(z:Int)(d:Nat)(w:World)(h1: -9223372036854775808<=z)(h2:z<=9223372036854775807)(b:d<=18):Calls prog 42 #[z,.int .i64 (d:Int)] w (iZ w (.string (bs (iz z d)))):=by
 go_enter func42,ntmps42;go_wp2_with fail;refine(Y7 z d w h1 h2 b).mono ?_;rintro e c ⟨rfl,hb⟩;have a:=O hb;clear hb;go_wp2;go_ret;exact⟨rfl,a⟩
def YI(s:gW)(a:Option Addr)(n c p:Nat)(w:World)(h1:1<=p)(h2:p<=17):
 Calls prog 116 #[.agg (⟨s,a,n,c⟩:jt),.int .i64 (p:Int)] w (iZ w (.int .i64 (s.get (p:Int)))):=by
 have b:=Y.new w s a n c;have hb:=(TH w w).alloc (ag _) (.cells (⟨s,a,n,c⟩:jt) 58);have e:=O b;have d:=O hb;clear b hb;go_enter func116,ntmps116;go_upto_region 1 with fail;refine gI (fun h=>Y h w s a n c/\Below w w h) ⟨e,d⟩ ?_;clear e d;rintro L ⟨b,hb⟩;obtain⟨k0,k1,A,B,C,D,E,F,H,K,i,j,k,l,m,o,r,t,u,v,x,y⟩:=b.cells;have d:=O hb;have z:=b.lt;clear b hb
 have f:1<=(p:Int):=by omega
 have g:(p:Int)<=17:=by omega
 clear h1 h2;generalize(p:Int)=q at*
 obtain rfl|rfl|rfl|rfl|rfl|rfl|rfl|rfl|rfl|rfl|rfl|rfl|rfl|rfl|rfl|rfl|rfl:=oL f g
 all_goals
  go_wp2;go_ret;exact⟨rfl,d⟩
def Iv:Nat->Nat
 |0=>1
 |1=>2
 |2=>3
 |3=>4
 |4=>5
 |5=>6
 |6=>7
 |7=>8
 |8=>12
 |9=>14
 |10=>16
 |11=>17
 |12=>18
 |13=>19
 |14=>20
 |15=>9
 |16=>10
 |_=>0
def NE(b k:Nat)(w:World):Calls prog 278 #[.pointer (some ⟨b,k,none⟩)] w fun e w'=>e=.returned (.pointer (some ⟨b,k+1,none⟩))/\w=w':=by
 go_enter func278,ntmps278;go_wp2;go_ret;exact⟨rfl,rfl⟩
def NF(b k:Nat)(w:World):Calls prog 279 #[.pointer (some ⟨b,k,none⟩)] w fun e w'=>e=.returned (.pointer (some ⟨b,k+2,none⟩))/\w=w':=by
 go_enter func279,ntmps279;go_wp2;go_ret;exact⟨rfl,rfl⟩
def NG(b k:Nat)(w:World):Calls prog 280 #[.pointer (some ⟨b,k,none⟩)] w fun e w'=>e=.returned (.pointer (some ⟨b,k+3,none⟩))/\w=w':=by
 go_enter func280,ntmps280;go_wp2;go_ret;exact⟨rfl,rfl⟩
def NH(b k:Nat)(w:World):Calls prog 281 #[.pointer (some ⟨b,k,none⟩)] w fun e w'=>e=.returned (.pointer (some ⟨b,k+4,none⟩))/\w=w':=by
 go_enter func281,ntmps281;go_wp2;go_ret;exact⟨rfl,rfl⟩
def NI(b k:Nat)(w:World):Calls prog 282 #[.pointer (some ⟨b,k,none⟩)] w fun e w'=>e=.returned (.pointer (some ⟨b,k+5,none⟩))/\w=w':=by
 go_enter func282,ntmps282;go_wp2;go_ret;exact⟨rfl,rfl⟩
def NJ(b k:Nat)(w:World):Calls prog 283 #[.pointer (some ⟨b,k,none⟩)] w fun e w'=>e=.returned (.pointer (some ⟨b,k+6,none⟩))/\w=w':=by
 go_enter func283,ntmps283;go_wp2;go_ret;exact⟨rfl,rfl⟩
def NK(b k:Nat)(w:World):Calls prog 284 #[.pointer (some ⟨b,k,none⟩)] w fun e w'=>e=.returned (.pointer (some ⟨b,k+7,none⟩))/\w=w':=by
 go_enter func284,ntmps284;go_wp2;go_ret;exact⟨rfl,rfl⟩
def NL(b k:Nat)(w:World):Calls prog 285 #[.pointer (some ⟨b,k,none⟩)] w fun e w'=>e=.returned (.pointer (some ⟨b,k+8,none⟩))/\w=w':=by
 go_enter func285,ntmps285;go_wp2;go_ret;exact⟨rfl,rfl⟩
def NM(b k:Nat)(w:World):Calls prog 286 #[.pointer (some ⟨b,k,none⟩)] w fun e w'=>e=.returned (.pointer (some ⟨b,k+12,none⟩))/\w=w':=by
 go_enter func286,ntmps286;go_wp2;go_ret;exact⟨rfl,rfl⟩
def Lk(b k:Nat)(w:World):Calls prog 287 #[.pointer (some ⟨b,k,none⟩)] w fun e w'=>e=.returned (.pointer (some ⟨b,k+14,none⟩))/\w=w':=by
 go_enter func287,ntmps287;go_wp2;go_ret;exact⟨rfl,rfl⟩
def Ll(b k:Nat)(w:World):Calls prog 288 #[.pointer (some ⟨b,k,none⟩)] w fun e w'=>e=.returned (.pointer (some ⟨b,k+16,none⟩))/\w=w':=by
 go_enter func288,ntmps288;go_wp2;go_ret;exact⟨rfl,rfl⟩
def Lm(b k:Nat)(w:World):Calls prog 289 #[.pointer (some ⟨b,k,none⟩)] w fun e w'=>e=.returned (.pointer (some ⟨b,k+17,none⟩))/\w=w':=by
 go_enter func289,ntmps289;go_wp2;go_ret;exact⟨rfl,rfl⟩
def Ln(b k:Nat)(w:World):Calls prog 290 #[.pointer (some ⟨b,k,none⟩)] w fun e w'=>e=.returned (.pointer (some ⟨b,k+18,none⟩))/\w=w':=by
 go_enter func290,ntmps290;go_wp2;go_ret;exact⟨rfl,rfl⟩
def Lo(b k:Nat)(w:World):Calls prog 291 #[.pointer (some ⟨b,k,none⟩)] w fun e w'=>e=.returned (.pointer (some ⟨b,k+19,none⟩))/\w=w':=by
 go_enter func291,ntmps291;go_wp2;go_ret;exact⟨rfl,rfl⟩
def Lp(b k:Nat)(w:World):Calls prog 292 #[.pointer (some ⟨b,k,none⟩)] w fun e w'=>e=.returned (.pointer (some ⟨b,k+20,none⟩))/\w=w':=by
 go_enter func292,ntmps292;go_wp2;go_ret;exact⟨rfl,rfl⟩
def Lq(b k:Nat)(w:World):Calls prog 293 #[.pointer (some ⟨b,k,none⟩)] w fun e w'=>e=.returned (.pointer (some ⟨b,k+9,none⟩))/\w=w':=by
 go_enter func293,ntmps293;go_wp2;go_ret;exact⟨rfl,rfl⟩
def Lr(b k:Nat)(w:World):Calls prog 294 #[.pointer (some ⟨b,k,none⟩)] w fun e w'=>e=.returned (.pointer (some ⟨b,k+10,none⟩))/\w=w':=by
 go_enter func294,ntmps294;go_wp2;go_ret;exact⟨rfl,rfl⟩
def NN(b k:Nat)(w:World):Calls prog 295 #[.pointer (some ⟨b,k,none⟩)] w fun e w'=>e=.returned (.pointer (some ⟨b,k+15,none⟩))/\w=w':=by
 go_enter func295,ntmps295;go_wp2;go_ret;exact⟨rfl,rfl⟩
def Ls(b k:Nat)(w:World):Calls prog 296 #[.pointer (some ⟨b,k,none⟩)] w fun e w'=>e=.returned (.pointer (some ⟨b,k+11,none⟩))/\w=w':=by
 go_enter func296,ntmps296;go_wp2;go_ret;exact⟨rfl,rfl⟩
def JN(i:Nat)(hi:i<17)(b k:Nat)(w:World):Calls prog (QB i) #[.pointer (some ⟨b,k,none⟩)] w fun e w'=>e=.returned (.pointer (some ⟨b,k+Iv i,none⟩))/\w=w':=by
 match i,hi with
 |0,_=>exact NE b k w
 |1,_=>exact NF b k w
 |2,_=>exact NG b k w
 |3,_=>exact NH b k w
 |4,_=>exact NI b k w
 |5,_=>exact NJ b k w
 |6,_=>exact NK b k w
 |7,_=>exact NL b k w
 |8,_=>exact NM b k w
 |9,_=>exact Lk b k w
 |10,_=>exact Ll b k w
 |11,_=>exact Lm b k w
 |12,_=>exact Ln b k w
 |13,_=>exact Lo b k w
 |14,_=>exact Lp b k w
 |15,_=>exact Lq b k w
 |16,_=>exact Lr b k w
 |i+17,hi=>omega
def Iw(i:Nat)(hi:i<17):Iv i=mi ((i:Int)+1):=by
 match i,hi with
 |0,_=>rfl
 |1,_=>rfl
 |2,_=>rfl
 |3,_=>rfl
 |4,_=>rfl
 |5,_=>rfl
 |6,_=>rfl
 |7,_=>rfl
 |8,_=>rfl
 |9,_=>rfl
 |10,_=>rfl
 |11,_=>rfl
 |12,_=>rfl
 |13,_=>rfl
 |14,_=>rfl
 |15,_=>rfl
 |16,_=>rfl
 |i+17,hi=>omega
def Tryz.infoPar:(prog.info? 83).map (·.size)=some 3:=by kernel_rfl
def qe{ops:Array Oper}{a:List Oper}{c:Oper}{e:Act}{w:World}{Q:Exit->Act->World->Prop}{b o:Nat}{s:ByteArray}{d:Int}{f:Value}(p:Operand)(j:c.op=.load 83 p)(g:c.guard=none)
 (k:e.eval p=.pointer (some ⟨b,o,none⟩))(h:w.rangeAt b o [s,d,f])(i:wpList prog ops Q a (e.put c.dst (.agg #[s,d,f])) w):wpList prog ops Q (c::a) e w:=
 wpList_load_mid g 83 p j b o k [s,d,f] _ h underlying83 rfl Tryz.infoPar i
def oV{w:World}{b j:Nat}{v:Value}(h:w.cell? ⟨b,j,none⟩=some v):b<w.heap.size:=by
 apply bg;intro a;rw[World.cell?,Array.getElem?_eq_none (by show w.heap.size<=b;omega)]at h;cases h
def tk(s:List UInt8):Int:=Lj (kO.findIdx? (· ==s))
def Lt(x s:List UInt8)(d:Int)(f:Value)(b:Nat)(w:World)(hb:w.cell? (J b)=some (.string (bs s))):
 Calls prog 210 #[.agg #[.string (bs x),d,f],U b] w (iZ w (.bool (x==s))):=by
 have e:=oV hb;have a:=(TH w w).alloc (ag _) (.cells #[.string (bs x),d,f] 83);have h0:=TL w (.cells #[.string (bs x),d,f] 83);have c0:=VV h0 0;have g:=(a.cell (p:=J b) e).trans hb;have c:=O a;clear hb a h0;go_enter func210,ntmps210;go_wp2;go_ret;exact⟨rfl,c⟩
def Iy(s:List UInt8)(b N:Nat)(w:World)(m:TW N w)(u:N<=w.heap.size)(hb:w.cell? (J b)=some (.string (bs s))):
 Calls prog 209 #[Z (J 0) 17 17,.func (.func 210) #[] #[U b]] w (iZ w (.int .i64 (tk s))):=by
 have n:=oV hb;have q:=O m;have j:=O hb;clear m hb;go_enter func209,ntmps209;go_wp2
 go_loopw [8] (fun i wr=>∃k:Nat,k<=17/\i=.int .i64 (k:Int)/\(∀y∈kO.take k,(y==s)=false)/\Below w w wr) (fun i _=>17-(intOf i).toNat)
 case atStart=>exact⟨0,aA _,rfl,by simp,TH _ _⟩
 case round=>
  obtain⟨k,z,rfl,a:HQ _,Hb:HQ _⟩:=hrel;by_cases g:k<17
  .have o:kO[k]? =some (kO.getD k []):=by rw[ah,ae (show k<kO.length from g)];rfl
   have t:=O ((q.below (Hb.mono u)).par k g);have l:=O o;clear o;generalize kO.getD k []=x at*;have r:=O (show wr.cell? (J b)=some (.string (bs s))from(Hb.cell (p:=J b) n).trans j)
   go_wp2_with(refine qe (.tmp 14) rfl rfl rfl t ?_)
   refine(Lt x s _ _ b wr r).mono ?_;rintro e A ⟨rfl,f⟩;have d:=O (Hb.trans (f.mono Hb.size));clear f;cases hbx:(x==s)
   .have c:=O (JM l a hbx)
    clear a;go_wp2
    go_roundw
    case rel=>exact⟨k+1,by omega,by go_num,c,d⟩
    case measure=>simp[intOf];omega
   .have h:=O (Aq l a hbx)
    clear a;go_wp2;go_ret;exact⟨by unfold tk;rw[h];rfl,d⟩
  .obtain rfl:k=17:=by omega
   have hf:kO.findIdx? (· ==s)=none:=vC (fun y v=>a y (by rw[aM (by decide)];exact v));have h:=O hf;clear hf;go_wp2;go_ret;exact⟨by unfold tk;rw[h];rfl,Hb⟩
def uc(s:List UInt8)(N:Nat)(w:World)(c:TW N w)(h:N<=w.heap.size):Calls prog 175 #[.string (bs s)] w (iZ w (.int .i64 (tk s))):=by
 have a:=(TH w w).alloc (ag _) (.cells #[.string (bs s)] 9);have h0:=TL w (.cells #[.string (bs s)] 9);have g:=O (VV h0 0);have d:=O (c.below (a.mono h));have b:=O a;clear c a h0;go_enter func175,ntmps175;go_wp2_with fail;refine(Iy s w N _ d (by simp;omega) g).mono ?_;rintro e i ⟨rfl,hb⟩;have f:=O (b.trans (hb.mono b.size));clear hb;go_wp2;go_ret;exact⟨rfl,f⟩
def jD.sl{α:Type}{R:pB α}{k:Nat}{T:TypeId}{base:Nat}{w:World}{v:Value}{l:List α}(h:jD R k T base w v l):∃a c,v=.slice a l.length c/\(a=none->c=0):=by
 obtain ⟨rfl,rfl⟩|⟨g,cap,rfl,_⟩:=h.form
 .exact⟨none,0,rfl,fun _=>rfl⟩
 .exact⟨_,cap,rfl,fun e=>by cases e⟩
def zx{l:List gM}{zs:List Int}:∀{n:Nat}{l':List gM},tu l zs n=some l'->l'.length=l.length:=by
 intro n
 induction n with
 |zero=>intro l' h;cases h;rfl
 |succ n a=>
  intro l' h;rw[tu]at h
  cases hc:tu l zs n with
  |none=>rw[hc]at h;cases h
  |some m=>
   rw[hc]at h;simp only[aO]at h;split at h
   .cases h
    rw[xP];exact a hc
   .cases h
def Pq(w:World)(l:List gM)(zs:List Int)(n:Nat)(e:Ending)(w':World):Prop:=
 (tu l zs n=none/\e=.returned (.tuple #[oN,false])/\Below w w w')\/
 (∃l' v,tu l zs n=some l'/\e=.returned (.tuple #[v,.bool (decide (n<=12))])/\oJ w w' v l'/\Below w w w')
def MQ(l:List gM)(a:Option Addr)(n c:Nat)(i p v:Int)(w:World)(h:RR jE 22 (fun b=>b<w.heap.size) w a n c l)(d:n<=1000000)(h0:nT l i p v=false):
 Calls prog 86 #[Z a n c,i,p,v] w (fun e w'=>e=.returned (.tuple #[oN,false])/\Below w w w'):=
 (UW l a n c i p v w h d).mono (by
   rintro e w' (⟨_,h,hb⟩|⟨h1,_⟩)
   .exact⟨h,hb⟩
   .rw[h0]at h1;cases h1)
def Kq(l:List gM)(a:Option Addr)(n c:Nat)(i p v:Int)(w:World)(h:RR jE 22 (fun b=>b<w.heap.size) w a n c l)(d:n<=1000000)(h0:nT l i p v=true):
 Calls prog 86 #[Z a n c,i,p,v] w (fun e w'=>∃g c,e=.returned (.tuple #[Z (J g) l.length c,true])/\oJ w w' (.slice (J g) l.length c) (qy l i p v)/\Below w w w'):=
 (UW l a n c i p v w h d).mono (by
   rintro e w' (⟨h1,_⟩|⟨_,h⟩)
   .rw[h0]at h1;cases h1
   .exact h)
def wW(l:List gM)(zs:List Int)(a b:Option Addr)(m d n c:Nat)(w:World)(h:RR jE 22 (fun b=>b<w.heap.size) w a m d l)(W:m<=1000000)(X:IR w w 3 b n c zs)(hn:n<=1000000):
 Calls prog 50 #[Z a m d,Z b n c] w (Pq w l zs n):=by
 have H:=O h;have Hz:=O X;have y:=h.1;have a9:=X.2.1;clear h X;go_enter func50,ntmps50
 go_wp2_with((with_reducible refine(zu l a m d _ H.out W).mono ?_);rintro e w1 ⟨v1,rfl,t,hb⟩;have Ho:=O t;have Hb:=O hb;clear t hb)
 go_loopw [6,7] (fun v u wr=>∃k l',k<=n/\u=.int .i64 (k:Int)/\tu l zs k=some l'/\oJ w wr v l'/\Below w w wr) (fun _ u _=>n-(intOf u).toNat)
 case atStart=>exact⟨0,l,by omega,rfl,rfl,Ho,Hb⟩
 case round=>
  obtain⟨k,l',hk,rfl,E,t,hb⟩:=hrel;obtain⟨sa,sc,rfl,-⟩:=t.r.sl;have S:=zx E;rw[S,y]at t⊢;have P:=O E;have D:=O t;have p:=O hb;clear E t hb;by_cases a6:k<n
  .have K:=Hz.go p
   have a3:=O K;obtain⟨b1,off,rfl,hlt,x0,x1,x2⟩:=K.at3 a6;clear K
   have T:tu l zs (k+1)=if oK zs k (zs.getD (k*3) 0) (zs.getD (k*3+1) 0)=false/\nT l' (zs.getD (k*3) 0) (zs.getD (k*3+1) 0) (zs.getD (k*3+2) 0)=true then some (qy l' (zs.getD (k*3) 0) (zs.getD (k*3+1) 0) (zs.getD (k*3+2) 0))else none:=by
    rw[tu,P];rfl
   have C:=O T;clear T;generalize zs.getD (k*3) 0=s0 at*;generalize zs.getD (k*3+1) 0=p0 at*;generalize zs.getD (k*3+2) 0=v0 at*
   have Q:∀j,j<k->zs.getD (j*3) 0=s0/\zs.getD (j*3+1) 0=p0->tu l zs n=none:=by
    rintro j hj ⟨h1,h2⟩;refine vU (k:=k+1) ?_ (by omega);rw[C,aj];rw[show oK zs k s0 p0=true from lM (f:=fun k=>(zs.getD (k*3) 0==s0)&& (zs.getD (k*3+1) 0==p0)) hj (by simp only[h1,h2];simp)];simp
   have a0:=O Q;clear Q;have i:=O (show Below wr wr (wr.alloc (.cells #[s0,p0,v0] 64))from(TH _ _).alloc (ag _) _);have x:=O (TL wr (.cells #[s0,p0,v0] 64));obtain⟨L,rfl⟩:∃L:World,L=wr:=⟨_,rfl⟩;go_wp2_with fail;clear x0 x1 x2
   go_loopw [9] (fun u wq=>∃j:Nat,j<=k/\u=.int .i64 (j:Int)/\(List.range j).any (fun k=>(zs.getD (k*3) 0==s0)&& (zs.getD (k*3+1) 0==p0))=false/\wq.heap[L.heap.size]? =some (.cells #[s0,p0,v0] 64 (0,0))/\Below L L wq) (fun u _=>k-(intOf u).toNat)
   case atStart=>exact⟨0,by omega,rfl,rfl,x,i⟩
   case round=>
    clear x i;obtain⟨j,hj,rfl,hd,z,R⟩:=hrel;have a8:=TK z;obtain⟨q0,q1,q2⟩:=kE z;have Hd:=O hd;have x:=O z;have i:=O R;clear hd z R;by_cases a5:j<k
    .obtain⟨b2,o2,e2,a7,z0,z1,z2⟩:=(a3.go i).at3 (k:=j) (by omega)
     cases e2
     have A:((zs.getD (j*3) 0==s0)&& (zs.getD (j*3+1) 0==p0))=false->(List.range (j+1)).any (fun k=>(zs.getD (k*3) 0==s0)&& (zs.getD (k*3+1) 0==p0))=false:=fun e=>(lL (f:=fun k=>(zs.getD (k*3) 0==s0)&& (zs.getD (k*3+1) 0==p0)) Hd).trans e
     have o:=a0 j a5;clear z2;generalize zs.getD (j*3) 0=r0 at z0 A o;generalize zs.getD (j*3+1) 0=r1 at z1 A o;have a1:=O A;have N:=O o;clear A o q2;cases w0:(r0==s0) <;>cases w1:(r1==p0)
     all_goals
      go_wp2_with fail
      go_quiet (fail)
      go_wp2_with fail
     iterate 3
      .go_roundw
       case rel=>exact⟨j+1,by omega,by go_num,a1 (by rw[w0,w1];rfl),by rw[World.heap_drewN];exact x,gV i _⟩
       case measure=>simp[intOf];omega
     .go_ret2
      exact VR ⟨N ⟨by simpa using w0,by simpa using w1⟩,rfl,I p (gV i _)⟩
    .obtain rfl:j=k:=by omega
     have M:=O (show oK zs j s0 p0=false from Hd);cases hpu:nT l' s0 p0 v0
     .have q:=O hpu;clear hpu
      go_wp2_with((with_reducible refine(MQ l' sa m sc s0 p0 v0 _ ((D.out.r.rr iD).go iD i.out) W q.out).mono ?_);rintro e w3 ⟨rfl,s⟩;have B:=O s;clear s)
      go_ret2;refine VR ⟨vU (k:=j+1) ?_ (by omega),rfl,I p (I i B)⟩;rw[C,aj (by rw[q];simp)]
     .have q:=O hpu;clear hpu
      go_wp2_with((with_reducible refine(Kq l' sa m sc s0 p0 v0 _ ((D.out.r.rr iD).go iD i.out) W q.out).mono ?_);rintro e w3 ⟨g,c3,rfl,F,s⟩;have B:=O s;rw[S,y]at F;have a2:=O (F.down (af p.size i.size));clear s F)
      go_roundw
      case rel=>exact⟨j+1,qy l' s0 p0 v0,by omega,by go_num,by rw[C,aq ⟨M,q⟩],a2,I p (I i B)⟩
      case measure=>simp[intOf];omega
  .obtain rfl:k=n:=by omega
   by_cases a4:k<=12
   all_goals
    go_wp2;go_ret2;exact VS ⟨l',_,P,by simp[a4] <;>omega,D,p⟩
