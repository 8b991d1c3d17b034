import Derived.Test.YtgohdcccfkjooaaGreatDoorSAD
namespace Go.Proofs.YtgohdcccfkjooaaGreatDoor
set_option linter.all false
set_option maxRecDepth 100000
set_option maxHeartbeats 1600000
open Go.Proofs.Tryz Go.RowKit
def Iu:Option Nat->Int
 |none=> -1
 |some p=>(p:Int)
def yM(T:List UInt8)(w:World)(d c:Value)(e:World):Prop:=
 ∃b a,nP 0 none 32 T=(b,a)/\d=.int .i64 (Iu b)/\c=.int .i32 a/\(∀p,b=some p->p<T.length)/\0<=a/\a<=255/\Below w w e
def PS(T:List UInt8)(w:World)(d c:Value)(wr:World):Prop:=
 ∃(k:Nat)(b:Option Nat)(a:Int),k<=T.length/\wr=w.iter (bs T) k/\d=.int .i64 (Iu b)/\c=.int .i32 a/\nP k b a (T.drop k)=nP 0 none 32 T/\(∀p,b=some p->p<k)/\0<=a/\a<=255
def JH(l:List UInt8):Int:=match li l with
 |none=>0
 |some p=>(p:Int)
def JI(l:List UInt8):Bool:=(li l).isSome
def Dx(w:World)(l:List UInt8)(e:Ending)(w':World):Prop:=e=.returned (.tuple #[.int .i64 (JH l),.bool (JI l)])/\Below w w w'
def Lg{b l}(a:b≠45):oS (b::l)=(false,b::l):=by
 unfold oS;split
 .rename_i h;cases h;exact absurd rfl a
 .rfl
def wC(l):Lib.trimPrefix l [45]=(oS l).2:=by
 cases l with
 |nil=>rfl
 |cons b l=>
  by_cases a:b=45
  .subst a;rfl
  .have:Lib.hasPrefix (b::l) [45]=false:=by
    show((45:UInt8)==b&&_)=false
    rw[cL];exact VR (ak.2 (fun e=>a e.symm))
   unfold Lib.trimPrefix;rw[this,Lg a];rfl
def JJ{x}(h:x<48\/57<x):Ak x=false:=aw (by omega)
def Dy(T:List UInt8):Option Nat->List UInt8
 |none=>T
 |some p=>T.take p
def JK(T:List UInt8):Option Nat->Nat
 |none=>0
 |some p=>T.length-p-1
def Rz(T b a):yb T (b,a)=if Ak a=false\/(b≠none/\a=48)then none else if 1<(Dy T b).length/\(Dy T b).head?=some 48 then none else some (JK T b):=by
 cases b<;>rfl
def Ft(l w)(hl:l.length<=1000000):Calls prog 225 #[.string (bs l)] w (Dx w l):=by
 have c9:(oS l).2.length<=1000000:=by unfold oS;split<;>simp at hl⊢ <;>omega
 have c0:=wC l;generalize hT:(oS l).2=T at*;have HT:=O hT;have c4:=O c0;clear hT c0;have d8:(bs T).size=T.length:=rfl;go_enter func225,ntmps225;go_wp2_with fail;go_step3;go_wp2_with fail;refine(tX l [45] _).mono ?_;rintro e w1 ⟨rfl,rfl⟩;rw[c4];go_wp2_with fail;go_step3
 go_upto_block 0 with fail
 go_cut [5,6] (fun pv lv wx=>yM T w pv lv wx)
 case first=>
  go_wp2_with fail
  go_loopw [5,6] (fun pv lv wr=>PS T w pv lv wr) (fun _ _ wr=>T.length-wr.iterPos w)
  case atStart=>exact⟨0,none,32,aA _,rfl,rfl,rfl,rfl,(fun _ h=>by cases h),by omega,by omega⟩
  case round=>
   obtain⟨k,c,a,hk,rfl,rfl,rfl,g,j,b7,b8⟩:=hrel;have d0:Below w w (w.iter (bs T) k):=(TH _ _).alloc (aa _) _;by_cases hlt:k<T.length
   .have z:k<(bs T).size:=hlt
    have s:(bs T)[k]=T[k]:=rfl
    have i:T.drop k=T[k]::T.drop (k+1):=by rw[dG hlt]
    by_cases K:T[k].toNat<128
    .have a3:=fun ty=>run_next_ascii (P:=prog) w (bs T) k ty z K
     simp only[s]at a3;rw[i,nP]at g;have S:=O g;have b1:=O j;clear g j s i
     have d2:(0:Int)<=(T[k].toNat:Int):=by omega
     have d3:(T[k].toNat:Int) <128:=by omega
     by_cases d:T[k]=46/\c=none/\0<k
     .have h1:=S.out
      rw[aq d]at h1;obtain⟨hd,rfl,b6⟩:=d
      have hi:((T[k].toNat:Int)==46)=true:=by rw[hd];rfl
      have A:(T[k].toNat:Int)=46:=by rw[hd];rfl
      rw[show Iu none= -1 from rfl];have H1:=O h1;have Q:=O A;clear h1 hd A;go_wp2_with fail
      go_roundw
      case rel=>exact⟨k+1,some k,46,by omega,rfl,rfl,by rw[Q],H1,fun p o=>by cases o;omega,by omega,by omega⟩
      case measure=>simp[World.iterPos_iter];omega
     .by_cases y:ma T[k]=true
      .have h1:=S.out
       rw[aj d,aq y]at h1;have a7:=bZ y
       have hi:((T[k].toNat:Int)==46)=false:=by simp;omega
       have X:¬(T[k].toNat:Int) <48:=by omega
       have b3:¬57<(T[k].toNat:Int):=by omega
       have H1:=O h1;clear h1 y a7 d;go_wp2_with fail
       go_roundw
       case rel=>exact⟨k+1,c,_,by omega,rfl,rfl,rfl,H1,fun p o=>by have:=b1 p o;omega,by omega,by omega⟩
       case measure=>simp[World.iterPos_iter];omega
      .have h1:=S.out
       rw[aj d,aj y]at h1
       have a2:¬(48<=T[k].toNat/\T[k].toNat<=57):=fun h=>y (aP h)
       have hcut:yM T w (.int .i64 (Iu c)) (.int .i32 32) (w.iter (bs T) (k+1)):=⟨c,32,h1.symm,rfl,rfl,fun p o=>by have:=b1 p o;omega,by omega,by omega,(TH _ _).alloc (aa _) _⟩;have b:=O hcut;clear h1 hcut y;by_cases b2:T[k].toNat=46
       .have A:T[k]=46:=fN.1 (by rw[b2];rfl)
        have hi:((T[k].toNat:Int)==46)=true:=by simp;omega
        have X:(T[k].toNat:Int) <48:=by omega
        have a4:=O d;have Q:=O A;clear d A b2 a2
        cases c with
        |some p=>
         rw[show Iu (some p)=(p:Int)from rfl]at b;rw[show Iu (some p)=(p:Int)from rfl]
         have c8:¬(p:Int) <0:=by omega
         go_wp2_with fail;go_meet;exact b
        |none=>
         have b6:k=0:=by
          obtain h|h:=cM k
          .exact h
          .exact absurd ⟨Q,rfl,h⟩ a4
         rw[show Iu none= -1 from rfl]at b;rw[show Iu none= -1 from rfl]
         have d5:¬(0:Int) <(k:Int):=by omega
         clear b6;go_wp2_with fail;go_meet;exact b
       .have hi:((T[k].toNat:Int)==46)=false:=by simp;omega
        clear d;by_cases X:(T[k].toNat:Int) <48
        .clear a2
         go_wp2_with fail;go_meet;exact b
        .have b3:57<(T[k].toNat:Int):=by omega
         clear a2;go_wp2_with fail;go_meet;exact b
    .have a3:=fun ty=>run_next_any (P:=prog) w (bs T) k ty z
     have a1:=decode_high (bs T) k z (by rw[s];omega);have c6:=decode_le (bs T) k;rw[i,nP,aj (fun e=>K (by rw[e.1];decide)),aj (fun e=>by have:=bZ e;omega)]at g;generalize Utf8.decode (bs T) k=q at*;obtain⟨r,n⟩:=q
     have d7:(128:Int)<=(r:Int):=by have:=a1.1;simp at this;omega
     have hcut:yM T w (.int .i64 (Iu c)) (.int .i32 32) (w.iter (bs T) (k+n)):=⟨c,32,g.symm,rfl,rfl,fun p o=>by have:=j p o;omega,by omega,by omega,(TH _ _).alloc (aa _) _⟩;have b:=O hcut
     have hi:((r:Int)==46)=false:=by simp;omega
     have X:¬(r:Int) <48:=by omega
     have b3:57<(r:Int):=by omega
     clear g hcut j s i a1 c6;go_wp2_with fail;go_meet;exact b
   .have a3:=fun ty=>run_next_end (P:=prog) w (bs T) k ty hlt
    rw[gp (by omega),nP]at g;have hcut:yM T w (.int .i64 (Iu c)) (.int .i32 a) (w.iter (bs T) k):=⟨c,a,g.symm,rfl,rfl,fun p o=>by have:=j p o;omega,b7,b8,(TH _ _).alloc (aa _) _⟩;have b:=O hcut;clear g hcut j;go_wp2_with fail;go_meet;exact b
 case rest=>
  obtain⟨c,a,g,rfl,rfl,j,b7,b8,b4⟩:=hcut;have hv:=Lf T;rw[g]at hv
  have a0:li l=if l=[45,48]then none else we T:=by rw[<- HT];rfl
  rw[<- hv]at a0;have v:=O a0;have b0:=O b4;clear hv g a0 b4;have hW:∃W P,W=Dy T c/\P=JK T c:=⟨_,_,rfl,rfl⟩;obtain⟨W,P,hW,hP⟩:=hW;have HW:=O hW;have HP:=O hP
  have d1:W.length<=1000000:=by
   rw[hW];cases c with
   |none=>exact c9
   |some p=>simp[Dy];omega
  clear hW hP
  go_upto_if 40 with fail
  go_cut [2,9] (fun v2 v9 wx=>v2=.int .i64 (P:Int)/\v9=.string (bs W)/\wx=wc)
  case first=>
   cases c with
   |none=>
    rw[show Iu none= -1 from rfl];go_wp2_with fail;go_meet;exact⟨by rw[HP];rfl,by rw[HW];rfl,rfl⟩
   |some p=>
    have o:=j p rfl;rw[show Iu (some p)=(p:Int)from rfl]
    have e2:(bs T).extract 0 p=bs (T.take p):=by rw[sR,dW,gk]
    have e3:(T.length:Int)-(p:Int)-1=((T.length-p-1:Nat):Int):=by omega
    have e4:0<=(T.length:Int)-(p:Int):=by omega
    clear j;go_wp2_with fail;go_meet;exact⟨by rw[HP];rfl,by rw[HW];rfl,rfl⟩
  case rest=>
   obtain⟨rfl,rfl,rfl⟩:=hcut
   have c1:yb T (c,a)=if Ak a=false\/(c≠none/\a=48)then none else if 1<W.length/\W.head?=some 48 then none else some P:=by
    rw[HW,HP];exact Rz T c a
   have b9:li l=none->Dx w l (.returned (.tuple #[oZ,false])) wc:=fun h=>⟨by unfold JH JI;rw[h];rfl,b0⟩
   have x:=O b9;have D:=O c1;clear b9 c1 HW HP j;by_cases d6:a<48
   .have u:li l=none:=by
     have h1:=v.out;rw[D,aq (VR (JJ (by omega)))]at h1;rw[h1];split<;>rfl
    have t:=O u;clear u;go_wp2_with fail
    try rw[dd]
    go_ret2;exact x t
   .by_cases a1:57<a
    .have u:li l=none:=by
      have h1:=v.out;rw[D,aq (VR (JJ (by omega)))]at h1;rw[h1];split<;>rfl
     have t:=O u;clear u;go_wp2_with fail
     try rw[dd]
     go_ret2;exact x t
    .have b5:Ak a=true:=aP (by omega)
     have c3:=O b5;clear b5;by_cases hz:c≠none/\a=48
     .have u:li l=none:=by
       have h1:=v.out;rw[D,aq (VS hz)]at h1;rw[h1];split<;>rfl
      obtain⟨o,rfl⟩:=hz
      have c8:0<=Iu c:=by
       cases c with
       |none=>exact absurd rfl o
       |some p=>exact dP p
      have t:=O u;clear u o;go_wp2_with fail
      try rw[dd]
      go_ret2;exact x t
     .have M:yb T (c,a)=if 1<W.length/\W.head?=some 48 then none else some P:=by
       rw[D,aj];rintro(h|h)
       .rw[c3]at h;cases h
       .exact hz h
      have E:=O M;clear M
      have f:(Iu c<0)\/(0<=Iu c/\(a==48)=false):=by
       cases c with
       |none=>exact VR (by show(-1:Int) <0;omega)
       |some p=>exact VS ⟨dP p,by rw[ak];exact fun e=>hz ⟨by simp,e⟩⟩
      clear hz
      have N:W.length<=1\/(∃h:0<W.length,W[0].toNat≠48)->l≠[45,48]->Dx w l (.returned (.tuple #[.int .i64 (P:Int),true])) wc:=fun hw c7=>by
       have a8:¬(1<W.length/\W.head?=some 48):=by
        rintro⟨h2,h3⟩
        obtain h|⟨h0,h⟩:=hw
        .omega
        .rw[gm,ae h0]at h3
         exact h (by rw[aE h3];rfl)
       have h1:=v.out;rw[aj c7,E,aj a8]at h1;refine⟨?_,b0⟩;unfold JH JI;rw[h1];rfl
      have L:l=[45,48]->li l=none:=fun h=>by
       have h1:=v.out;rw[aq h]at h1;exact h1
      have F:=O N;have C:=O L;clear N L;by_cases c5:1<W.length
      .have d4:(bs W)[0]'(by show 0<W.length;omega)=W[0]:=rfl
       have c2:0<W.length:=by omega
       by_cases B:W[0].toNat=48
       .have u:li l=none:=by
         have a9:1<W.length/\W.head?=some 48:=⟨c5,by rw[gm,ae c2];exact ai some (fN.1 B)⟩;have h1:=v.out;rw[E,aq a9]at h1;rw[h1];split<;>rfl
        have t:=O u;clear u
        have H:1<(W.length:Int):=by omega
        have a5:((W[0].toNat:Int)==48)=true:=by simp;omega
        obtain hw|⟨hw,hw2⟩:=f
        all_goals
         clear B;go_wp2_with fail
         try rw[dd]
         go_ret2;exact x t
       .have Hy:=O (F (VS ⟨c2,B⟩))
        have H:1<(W.length:Int):=by omega
        have a5:((W[0].toNat:Int)==48)=false:=by simp;omega
        by_cases m:l=[45,48]
        .have t:=O (C m)
         subst m
         obtain hw|⟨hw,hw2⟩:=f
         all_goals
          clear B;go_wp2_with fail
          try rw[dd]
          go_ret2;exact x t
        .have R:=O m
         have a6:(l==[45,48])=false:=by rw[ak];exact m
         obtain hw|⟨hw,hw2⟩:=f
         all_goals
          clear B;go_wp2_with fail
          try rw[dd]
          go_ret2;exact Hy R
      .have Hy:=O (F (VR (by omega)))
       have H:¬1<(W.length:Int):=by omega
       by_cases m:l=[45,48]
       .have t:=O (C m)
        subst m
        obtain hw|⟨hw,hw2⟩:=f
        all_goals
         go_wp2_with fail
         try rw[dd]
         go_ret2;exact x t
       .have R:=O m
        have a6:(l==[45,48])=false:=by rw[ak];exact m
        obtain hw|⟨hw,hw2⟩:=f
        all_goals
         go_wp2_with fail
         try rw[dd]
         go_ret2;exact Hy R
def Am:∀(A:List UInt8),(∀b∈A,b≠46)->Lib.index A [46]= -1
 |[],_=>rfl
 |b::A,h=>by
  have g:=Am A (fun c d=>h c (au _ d));have a:=h b aG
  have f:([46]:List UInt8).isPrefixOf (b::A)=false:=by
   show((46:UInt8)==b&&_)=false
   rw[cL];exact VR (ak.2 (fun e=>a e.symm))
  rw[Lib.index,f,g];rfl
def Cq:∀(A f:List UInt8),(∀b∈A,b≠46)->Lib.index (A++46::f) [46]=A.length
 |[],f,_=>rfl
 |b::A,f,h=>by
  have j:=Cq A f (fun c d=>h c (au _ d));have a:=h b aG
  have i:([46]:List UInt8).isPrefixOf (b::(A++46::f))=false:=by
   show((46:UInt8)==b&&_)=false
   rw[cL];exact VR (ak.2 (fun e=>a e.symm))
  have g:((A.length:Int)== -1)=false:=by rw[ak];omega
  rw[bF,Lib.index,i,j,g,aH];simp
def Dz{A}(h:∀b∈A,b≠46):Lib.replace A [46] [] 1=A:=by
 have hi:=Am A h;unfold Lib.replace;rw[aj (by decide)]
 cases Lib.replaceNum A [46] 1 with
 |zero=>rfl
 |succ k=>rw[Lib.replaceK,hi];rfl
def Fu{A f}(h:∀b∈A,b≠46):Lib.replace (A++46::f) [46] [] 1=A++f:=by
 have hi:=Cq A f h;unfold Lib.replace;rw[aj (by decide)];have c:=Lib.count_hit (s:=A++46::f) (sub:=[46]) (by simp) hi
 have a:Lib.replaceNum (A++46::f) [46] 1=1:=by
  unfold Lib.replaceNum;rw[aj (by omega)];rfl
 rw[a,Lib.replaceK_hit _ _ _ _ _ hi,Lib.replaceK];simp
def Bo{s p}(q:EH s p):Lib.replace s [46] [] 1=(if q.neg then[45]else[])++(q.w++q.f):=by
 have c:∀b∈ (if q.neg then[45]else([]:List UInt8))++q.w,b≠46:=by
  intro b a
  obtain a|a:=bj.1 a
  .split at a
   .rw[aK.1 a];decide
   .cases a
  .have:=Qy (an.1 q.hw b a)
   exact ak.1 this
 by_cases hf:q.f=[]
 .have e:s=(if q.neg then[45]else([]:List UInt8))++q.w:=by
   have:=q.eq;rw[aq hf,bG]at this;exact this
  rw[hf,bG,<- e];rw[<- e]at c;exact Dz c
 .have e:s=((if q.neg then[45]else([]:List UInt8))++q.w)++46::q.f:=by
   have:=q.eq;rw[aj hf,<- aC]at this;exact this
  have h2:=Fu (f:=q.f) c;rw[<- e]at h2;rw[h2,aC]
def Lh{s p}(q:EH s p):((if q.neg then[45]else([]:List UInt8))++(q.w++q.f)).length<=s.length:=by
 have h1:(if q.f=[]then([]:List UInt8)else 46::q.f).length=0/\q.f.length=0\/(if q.f=[]then([]:List UInt8)else 46::q.f).length=q.f.length+1:=by
  split
  .rename_i h;exact VR ⟨rfl,by rw[h];rfl⟩
  .exact VS rfl
 have h2:s.length=(if q.neg then[45]else([]:List UInt8)).length+(q.w.length+(if q.f=[]then([]:List UInt8)else 46::q.f).length):=(ai List.length q.eq).trans (by rw[al,al]);rw[al,al];omega
def DA(l)(d:Nat)(w)(hl:l.length<=100000)(hd:d<=18)(hg:GW w):
 Calls prog 183 #[.string (bs l),.int .i64 (d:Int)] w (Rx w l d):=by
 have a8:¬(d:Int) <0:=by omega
 have a9:¬18<(d:Int):=by omega
 have Hg:=O hg;clear hg;go_enter func183,ntmps183;go_wp2_with fail;refine(Ft l _ (by omega)).mono ?_;rintro e w1 ⟨rfl,T⟩;have n:=O T;clear T;have h:Fi l d=(match li l with|none=>0|some p=>if p<=d/\rP (wg l*10^(d-p))=true then wg l*10^(d-p)else 0):=rfl;have g:Fj l d=(match li l with|none=>5|some p=>if p<=d then(if rP (wg l*10^(d-p))=true then 0 else 6)else 5):=rfl;unfold JH JI
 cases hdf:li l with
 |none=>
  rw[hdf]at h g;have B:=O h;have z:=O g;clear h g hdf;simp only[Option.isSome_none];go_wp2_with fail;go_ret2;refine⟨?_,n⟩;rw[B,z];rfl
 |some p=>
  rw[hdf]at h g;obtain⟨q⟩:=GS hdf;have B:=O h;have z:=O g;clear h g hdf;simp only[Option.isSome_some];by_cases a1:d<p
  .have K:(d:Int) <(p:Int):=by omega
   have a4:=O a1;clear a1;go_wp2_with fail;go_ret2;refine⟨?_,n⟩;have h1:=B.out;have h2:=z.out;have h3:=a4.out;rw[aj (by omega)]at h1 h2;rw[h1,h2];rfl
  .have K:¬(d:Int) <(p:Int):=by omega
   have v:=Bo q;have b0:=Lh q;have hat:=GT q (d-p);have k:=Hg.below n;generalize hA:(if q.neg then[45]else([]:List UInt8))++(q.w++q.f)=A at*
   have Q:(if q.neg then[45]else([]:List UInt8))++(q.w++q.f++List.replicate (d-p) 48)=A++List.replicate (d-p) 48:=by rw[<- hA];simp
   rw[Q]at hat;obtain⟨m,hm⟩:=k.m;have b:=Tryz.strings_Replace (bs l) (bs [46]) (bs []) 1 m w1 (by rw[lE];omega) hm (by rw[lE];decide) (by rw[lE,lE];simp;omega);rw[Db,Db,Db,v]at b;have y:=O b;have L:=O hat;have E:=O k;clear b hat k hm v hA Q q;go_wp2_with fail;refine y.mono ?_;rintro e w2 ⟨rfl,W⟩;have M:=O W;clear W;go_wp2_with fail
   have P:((d:Int)-(p:Int))=((d-p:Nat):Int):=by omega
   rw[P];refine(zY [48] (d-p) _ (by omega) (by simp)).mono ?_;rintro e D ⟨rfl,a0⟩;rw[Af];have j:Below w1 w1 D:=M.trans (a0.mono M.size);have u:=E.below j;have a2:=n.trans (j.mono n.size);have a5:({data:=A.toArray}:ByteArray)++bs (List.replicate (d-p) 48)=bs (A++List.replicate (d-p) 48):=oQ _ _
   have a7:(List.replicate (d-p) (48:UInt8)).length<=18:=by rw[dr];omega
   have a6:(A++List.replicate (d-p) (48:UInt8)).length<=100018:=by rw[al,dr];omega
   generalize hX:wg l*10^(d-p)=X at*;have HX:=O hX;have F:=O u;have s:=O a2;clear hX a0 j u a2 P
   have S:Fi l d=(if rP X then X else 0)/\Fj l d=(if rP X then 0 else 6):=by
    have h1:=B.out;have h2:=z.out
    have h3:p<=d:=by omega
    rw[aq h3]at h2;refine⟨?_,h2⟩;rw[h1];by_cases H:rP X=true
    .rw[aq ⟨h3,H⟩,aq H]
    .rw[aj (fun e=>H e.2),aj H]
   have r:=O S;clear S B z;generalize A++List.replicate (d-p) (48:UInt8)=AR at*;generalize List.replicate (d-p) (48:UInt8)=R at*;go_wp2_with fail;by_cases a:rP X=true
   .have hat:Lib.atoiAll (bs AR).data.toList=.ok X:=by
     have h1:=L.out;have h2:=bZ a;rw[aj (by omega)]at h1;exact h1
    have i:=O a;refine(Tryz.strconv_Atoi_ok (bs AR) (by rw[lE];omega) X hat D).mono ?_;rintro e w4 ⟨rfl,a3⟩
    have o:Below D D w4:=by
     obtain rfl|⟨t,rfl⟩:=a3
     .exact TH _ _
     .exact Lib.bytesWorld_below _ _ _
    have C:=O (s.trans (o.mono s.size));clear o a3 hat a;go_wp2_with fail;go_ret2;refine⟨?_,C⟩;rw[r.1,r.2,i];rfl
   .have c:rP X=false:=by simpa using a
    have hat:Lib.atoiAll (bs AR).data.toList=.range:=by
     have h1:=L.out;have h2:¬(-9223372036854775808<=X/\X<=9223372036854775807):=of_decide_eq_false c;rw[aq (by omega)]at h1;exact h1
    have i:=O c;obtain⟨tp,pv,x⟩:=F.rng;refine(Tryz.strconv_Atoi_range_var (bs AR) (by rw[lE];omega) hat tp pv D x).mono ?_;rintro e w4 ⟨N,rfl,-,-,o⟩;have C:=O (s.trans (o.mono s.size));clear o hat a c x;go_wp2_with fail;go_ret2;refine⟨?_,C⟩;rw[r.1,r.2,i];rfl
