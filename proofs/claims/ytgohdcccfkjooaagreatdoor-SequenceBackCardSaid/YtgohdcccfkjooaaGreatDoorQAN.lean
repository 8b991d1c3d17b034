import Derived.Test.YtgohdcccfkjooaaGreatDoorQAM
namespace Go.Proofs.YtgohdcccfkjooaaGreatDoor
set_option linter.all false
set_option maxRecDepth 100000
set_option maxHeartbeats 3200000
open Go.Proofs.Tryz Go.RowKit
def Am:∀(A:List UInt8),(∀b∈A,b≠46)->Lib.index A [46]= -1
 |[],_=>rfl
 |b::A,h=>by
  have g:=Am A (fun c d=>h c (au _ d));have a:=h b aG
  have f:([46]:List UInt8).isPrefixOf (b::A)=false:=by
   show((46:UInt8)==b&&_)=false
   rw[cL];exact Or.inl (ak.2 (fun e=>a e.symm))
  rw[Lib.index,f,g];rfl
def Cq:∀(A f:List UInt8),(∀b∈A,b≠46)->Lib.index (A++46::f) [46]=A.length
 |[],f,_=>rfl
 |b::A,f,h=>by
  have j:=Cq A f (fun c d=>h c (au _ d));have a:=h b aG
  have i:([46]:List UInt8).isPrefixOf (b::(A++46::f))=false:=by
   show((46:UInt8)==b&&_)=false
   rw[cL];exact Or.inl (ak.2 (fun e=>a e.symm))
  have g:((A.length:Int)== -1)=false:=by rw[ak];omega
  rw[bF,Lib.index,i,j,g,aH];simp
def Dz{A}(h:∀b∈A,b≠46):Lib.replace A [46] [] 1=A:=by
 have hi:=Am A h;unfold Lib.replace;rw[aj (by decide)]
 cases Lib.replaceNum A [46] 1 with
 |zero=>rfl
 |succ k=>rw[Lib.replaceK,hi];rfl
def Fu{A f}(h:∀b∈A,b≠46):Lib.replace (A++46::f) [46] [] 1=A++f:=by
 have hi:=Cq A f h;unfold Lib.replace;rw[aj (by decide)];have c:=Lib.count_hit (s:=A++46::f) (sub:=[46]) (by simp) hi
 have a:Lib.replaceNum (A++46::f) [46] 1=1:=by
  unfold Lib.replaceNum;rw[aj (by omega)];rfl
 rw[a,Lib.replaceK_hit _ _ _ _ _ hi,Lib.replaceK];simp
def Bo{s p}(q:EH s p):Lib.replace s [46] [] 1=(if q.neg then[45]else[])++(q.w++q.f):=by
 have c:∀b∈ (if q.neg then[45]else([]:List UInt8))++q.w,b≠46:=by
  intro b a
  obtain a|a:=bj.1 a
  .split at a
   .rw[aK.1 a];decide
   .cases a
  .have:=Qy (an.1 q.hw b a)
   exact ak.1 this
 by_cases hf:q.f=[]
 .have e:s=(if q.neg then[45]else([]:List UInt8))++q.w:=by
   have:=q.eq;rw[aq hf,bG]at this;exact this
  rw[hf,bG,<- e];rw[<- e]at c;exact Dz c
 .have e:s=((if q.neg then[45]else([]:List UInt8))++q.w)++46::q.f:=by
   have:=q.eq;rw[aj hf,<- aC]at this;exact this
  have h2:=Fu (f:=q.f) c;rw[<- e]at h2;rw[h2,aC]
def Lh{s p}(q:EH s p):((if q.neg then[45]else([]:List UInt8))++(q.w++q.f)).length<=s.length:=by
 have h1:(if q.f=[]then([]:List UInt8)else 46::q.f).length=0/\q.f.length=0\/(if q.f=[]then([]:List UInt8)else 46::q.f).length=q.f.length+1:=by
  split
  .rename_i h;exact Or.inl ⟨rfl,by rw[h];rfl⟩
  .exact Or.inr rfl
 have h2:s.length=(if q.neg then[45]else([]:List UInt8)).length+(q.w.length+(if q.f=[]then([]:List UInt8)else 46::q.f).length):=(ai List.length q.eq).trans (by rw[al,al]);rw[al,al];omega
def DA(l)(d:Nat)(w)(hl:l.length<=100000)(hd:d<=18)(hg:GW w):
 Calls prog 183 #[.string (bs l),.int .i64 (d:Int)] w (Rx w l d):=by
 have a8:¬(d:Int) <0:=by omega
 have a9:¬18<(d:Int):=by omega
 have Hg:=O hg;clear hg
 go_enter func183,ntmps183
 go_wp2_with fail
 refine(Ft l _ (by omega)).mono ?_;rintro e w1 ⟨rfl,T⟩;have n:=O T;clear T;have h:Fi l d=(match li l with|none=>0|some p=>if p<=d/\rP (wg l*10^(d-p))=true then wg l*10^(d-p)else 0):=rfl;have g:Fj l d=(match li l with|none=>5|some p=>if p<=d then(if rP (wg l*10^(d-p))=true then 0 else 6)else 5):=rfl;unfold JH JI
 cases hdf:li l with
 |none=>
  rw[hdf]at h g;have B:=O h;have z:=O g;clear h g hdf;simp only[Option.isSome_none]
  go_wp2_with fail
  go_ret2;refine⟨?_,n⟩;rw[B,z];rfl
 |some p=>
  rw[hdf]at h g;obtain⟨q⟩:=GS hdf;have B:=O h;have z:=O g;clear h g hdf;simp only[Option.isSome_some]
  by_cases a1:d<p
  .have K:(d:Int) <(p:Int):=by omega
   have a4:=O a1;clear a1
   go_wp2_with fail
   go_ret2;refine⟨?_,n⟩;have h1:=B.out;have h2:=z.out;have h3:=a4.out;rw[aj (by omega)]at h1 h2;rw[h1,h2];rfl
  .have K:¬(d:Int) <(p:Int):=by omega
   have v:=Bo q;have b0:=Lh q;have hat:=GT q (d-p);have k:=Hg.below n;generalize hA:(if q.neg then[45]else([]:List UInt8))++(q.w++q.f)=A at*
   have Q:(if q.neg then[45]else([]:List UInt8))++(q.w++q.f++List.replicate (d-p) 48)=A++List.replicate (d-p) 48:=by rw[<- hA];simp
   rw[Q]at hat;obtain⟨m,hm⟩:=k.m;have b:=Tryz.strings_Replace (bs l) (bs [46]) (bs []) 1 m w1 (by rw[lE];omega) hm (by rw[lE];decide) (by rw[lE,lE];simp;omega);rw[Db,Db,Db,v]at b;have y:=O b;have L:=O hat;have E:=O k;clear b hat k hm v hA Q q
   go_wp2_with fail
   refine y.mono ?_;rintro e w2 ⟨rfl,W⟩;have M:=O W;clear W
   go_wp2_with fail
   have P:((d:Int)-(p:Int))=((d-p:Nat):Int):=by omega
   rw[P];refine(zY [48] (d-p) _ (by omega) (by simp)).mono ?_;rintro e D ⟨rfl,a0⟩;rw[Af];have j:Below w1 w1 D:=M.trans (a0.mono M.size);have u:=E.below j;have a2:=n.trans (j.mono n.size);have a5:({data:=A.toArray}:ByteArray)++bs (List.replicate (d-p) 48)=bs (A++List.replicate (d-p) 48):=oQ _ _
   have a7:(List.replicate (d-p) (48:UInt8)).length<=18:=by rw[dr];omega
   have a6:(A++List.replicate (d-p) (48:UInt8)).length<=100018:=by rw[al,dr];omega
   generalize hX:wg l*10^(d-p)=X at*;have HX:=O hX;have F:=O u;have s:=O a2;clear hX a0 j u a2 P
   have S:Fi l d=(if rP X then X else 0)/\Fj l d=(if rP X then 0 else 6):=by
    have h1:=B.out;have h2:=z.out
    have h3:p<=d:=by omega
    rw[aq h3]at h2;refine⟨?_,h2⟩;rw[h1]
    by_cases H:rP X=true
    .rw[aq ⟨h3,H⟩,aq H]
    .rw[aj (fun e=>H e.2),aj H]
   have r:=O S;clear S B z;generalize A++List.replicate (d-p) (48:UInt8)=AR at*;generalize List.replicate (d-p) (48:UInt8)=R at*
   go_wp2_with fail
   by_cases a:rP X=true
   .have hat:Lib.atoiAll (bs AR).data.toList=.ok X:=by
     have h1:=L.out;have h2:=bZ a;rw[aj (by omega)]at h1;exact h1
    have i:=O a;refine(Tryz.strconv_Atoi_ok (bs AR) (by rw[lE];omega) X hat D).mono ?_;rintro e w4 ⟨rfl,a3⟩
    have o:Below D D w4:=by
     obtain rfl|⟨t,rfl⟩:=a3
     .exact TH _ _
     .exact Lib.bytesWorld_below _ _ _
    have C:=O (s.trans (o.mono s.size));clear o a3 hat a
    go_wp2_with fail
    go_ret2;refine⟨?_,C⟩;rw[r.1,r.2,i];rfl
   .have c:rP X=false:=by simpa using a
    have hat:Lib.atoiAll (bs AR).data.toList=.range:=by
     have h1:=L.out;have h2:¬(-9223372036854775808<=X/\X<=9223372036854775807):=of_decide_eq_false c;rw[aq (by omega)]at h1;exact h1
    have i:=O c;obtain⟨tp,pv,x⟩:=F.rng;refine(Tryz.strconv_Atoi_range_var (bs AR) (by rw[lE];omega) hat tp pv D x).mono ?_;rintro e w4 ⟨N,rfl,-,-,o⟩;have C:=O (s.trans (o.mono s.size));clear o hat a c x
    go_wp2_with fail
    go_ret2;refine⟨?_,C⟩;rw[r.1,r.2,i];rfl
def Sm(b a k):jr b a [k]=(decide (k<b)||decide (a<k)):=by simp[jr]
def lZ(k a:Int)(w)(h0:0<=a)(h1:a<=9223372036854775807):Calls prog 160 #[k,a] w (iZ w (.bool (!jr (-a) a [k]))):=by
 go_enter func160,ntmps160
 go_wp2
 all_goals
  go_ret;refine⟨ai (fun b=>Ending.returned (Value.bool b)) ?_,TH _ _⟩;rw[bJ];simp[Sm] <;>omega
def xM(i p q:Int)(w):Calls prog 161 #[.agg #[i,p,q]] w (iZ w (.bool (oH i p q))):=by
 go_enter func161,ntmps161
 go_wp2
 all_goals
  go_ret;refine⟨ai (fun b=>Ending.returned (Value.bool b)) ?_,by(repeat (first|exact TH _ _|apply gY|apply jA|exact below_chain1 (by assumption)|(refine I ?_ (by assumption))|(refine qo ?_ ?_)))⟩;rw[bJ];simp[oH,Sm] <;>omega
def En(s:gW):Nat->Int
 |0=>s.a0
 |1=>s.a1
 |2=>s.a2
 |_=>s.a3
def sm(s:gW):Bool:=!jr (-1000000000) 1000000000 [s.a0,s.a1,s.a2,s.a3]
def sr(s:gW)(n:Nat):Bool:=
 !jr (-1000000000) 1000000000 [s.curv]&& !jr (-1000000000) 1000000000 [s.curvX]&& !jr (-100000000) 100000000 [s.conic]&& !jr (-100000000) 100000000 [s.conicX]&& !jr (-1000000000) 1000000000 [s.p0]&& !jr (-1000000000) 1000000000 [s.p1]&& !jr (-1000000000) 1000000000 [s.thick]&& !jr (-1000000000) 1000000000 [s.dx]&& !jr (-1000000000) 1000000000 [s.dy]&&
 !jr (-90000000) 90000000 [s.ax]&& !jr (-90000000) 90000000 [s.ay]&& !jr (-90000000) 90000000 [s.az]&& (decide (0<=s.semi)&&decide (s.semi<=1000000000)&&decide (0<=s.hole)&&decide (s.hole<=1000000000)&& (decide (s.semi<=0)||decide (s.hole<s.semi)))&& (decide (-3<=s.order)&&decide (s.order<=3))&&decide (n<=8)&&rI s
def nX(s:gW)(zs:List Int)(n:Nat):Bool:=sm s&& (List.range n).all (mP zs)&&sr s n
def uw{f:Nat->Bool}{k}(h:∀j,j<k->f j=false)(a:f k=false):∀j,j<k+1->f j=false:=fun j b=>by
 by_cases e:j=k
 .subst e;exact a
 .exact h j (by omega)
def Pj{s zs n}(h1:sm s=true)(h2:(List.range n).all (mP zs)=true):nX s zs n=sr s n:=by
 unfold nX;rw[h1,h2];rfl
def nY(b a k l):jr b a (k::l)=(jr b a [k]||jr b a l):=by simp[jr]
def yH{s zs n}(h:jr (-1000000000) 1000000000 [s.a0]=true\/jr (-1000000000) 1000000000 [s.a1]=true\/jr (-1000000000) 1000000000 [s.a2]=true\/jr (-1000000000) 1000000000 [s.a3]=true):nX s zs n=false:=by
 unfold nX sm;rw[nY _ _ s.a0,nY _ _ s.a1,nY _ _ s.a2]
 obtain h|h|h|h:=h<;>simp[h]
def zm(s zs a n c)(w:World)(z:IR w w 3 a n c zs)(hn:n<=1000000)(hg:s.glass.size<=9223372036854775807):
 Calls prog 117 #[.agg (⟨s,a,n,c⟩:jt)] w (iZ w (.bool (nX s zs n))):=by
 have h1:=Y.new w s a n c;have q:=(TH w w).alloc (aa _) (.cells (⟨s,a,n,c⟩:jt) 70);have H1:=O h1;have Hz:=O z;have B:=O q;clear h1 z q
 go_enter func117,ntmps117
 go_upto_region 1 with fail
 refine gI (fun wx=>Y wx w s a n c/\Below w w wx) ⟨H1,B⟩ ?_;clear H1 B;rintro w1 ⟨h1,q⟩;have S1:=O h1;have u:=O q;have Z1:=O (Hz.go q);have hl:=h1.lt;clear h1 q
 go_wp2_with fail
 go_loopw [3] (fun r wr=>∃k:Nat,k<=4/\r=.int .i64 (k:Int)/\(∀j,j<k->jr (-1000000000) 1000000000 [En s j]=false)/\Below w1 w1 wr) (fun r _=>4-(intOf r).toNat)
 case atStart=>exact⟨0,by omega,rfl,fun j hj=>by omega,TH _ _⟩
 case round=>
  obtain⟨k,hk,rfl,x,m⟩:=hrel;have l:=O x;have p:=O m;have Sw:=O (Y.go S1 m hl);clear x m;obtain⟨c0,c1,c2,c3,c4,c5,c6,c7,c8,c9,D,E,F,H,K,L,M,N,P,Q,R,S⟩:=Sw.cells
  have a5:k=0\/k=1\/k=2\/k=3\/k=4:=by omega
  obtain rfl|rfl|rfl|rfl|rfl:=a5
  .cases hv:jr (-1000000000) 1000000000 [s.a0]with
   |true=>
    have h:=O (show(!jr (-1000000000) 1000000000 [s.a0])=false by rw[hv];rfl);have i:=O hv;clear hv
    go_wp2_with((with_reducible refine(lZ _ _ _ (by omega) (by omega)).mono ?_);rintro e o ⟨g,d⟩;rw[h]at g;subst g)
    go_ret;exact⟨by rw[yH (Or.inl i.out)];rfl,I u (I p d)⟩
   |false=>
    have h:=O (show(!jr (-1000000000) 1000000000 [s.a0])=true by rw[hv];rfl);have i:=O hv;clear hv
    go_wp2_with((with_reducible refine(lZ _ _ _ (by omega) (by omega)).mono ?_);rintro e o ⟨g,d⟩;rw[h]at g;subst g)
    go_roundw
    case rel=>exact⟨1,by omega,rfl,uw (k:=0) (f:=fun j=>jr (-1000000000) 1000000000 [En s j]) l i,I p d⟩
    case measure=>simp[intOf]
  .cases hv:jr (-1000000000) 1000000000 [s.a1]with
   |true=>
    have h:=O (show(!jr (-1000000000) 1000000000 [s.a1])=false by rw[hv];rfl);have i:=O hv;clear hv
    go_wp2_with((with_reducible refine(lZ _ _ _ (by omega) (by omega)).mono ?_);rintro e o ⟨g,d⟩;rw[h]at g;subst g)
    go_ret;exact⟨by rw[yH (Or.inr (Or.inl i.out))];rfl,I u (I p d)⟩
   |false=>
    have h:=O (show(!jr (-1000000000) 1000000000 [s.a1])=true by rw[hv];rfl);have i:=O hv;clear hv
    go_wp2_with((with_reducible refine(lZ _ _ _ (by omega) (by omega)).mono ?_);rintro e o ⟨g,d⟩;rw[h]at g;subst g)
    go_roundw
    case rel=>exact⟨2,by omega,rfl,uw (k:=1) (f:=fun j=>jr (-1000000000) 1000000000 [En s j]) l i,I p d⟩
    case measure=>simp[intOf]
  .cases hv:jr (-1000000000) 1000000000 [s.a2]with
   |true=>
    have h:=O (show(!jr (-1000000000) 1000000000 [s.a2])=false by rw[hv];rfl);have i:=O hv;clear hv
    go_wp2_with((with_reducible refine(lZ _ _ _ (by omega) (by omega)).mono ?_);rintro e o ⟨g,d⟩;rw[h]at g;subst g)
    go_ret;exact⟨by rw[yH (Or.inr (Or.inr (Or.inl i.out)))];rfl,I u (I p d)⟩
   |false=>
    have h:=O (show(!jr (-1000000000) 1000000000 [s.a2])=true by rw[hv];rfl);have i:=O hv;clear hv
    go_wp2_with((with_reducible refine(lZ _ _ _ (by omega) (by omega)).mono ?_);rintro e o ⟨g,d⟩;rw[h]at g;subst g)
    go_roundw
    case rel=>exact⟨3,by omega,rfl,uw (k:=2) (f:=fun j=>jr (-1000000000) 1000000000 [En s j]) l i,I p d⟩
    case measure=>simp[intOf]
  .cases hv:jr (-1000000000) 1000000000 [s.a3]with
   |true=>
    have h:=O (show(!jr (-1000000000) 1000000000 [s.a3])=false by rw[hv];rfl);have i:=O hv;clear hv
    go_wp2_with((with_reducible refine(lZ _ _ _ (by omega) (by omega)).mono ?_);rintro e o ⟨g,d⟩;rw[h]at g;subst g)
    go_ret;exact⟨by rw[yH (Or.inr (Or.inr (Or.inr i.out)))];rfl,I u (I p d)⟩
   |false=>
    have h:=O (show(!jr (-1000000000) 1000000000 [s.a3])=true by rw[hv];rfl);have i:=O hv;clear hv
    go_wp2_with((with_reducible refine(lZ _ _ _ (by omega) (by omega)).mono ?_);rintro e o ⟨g,d⟩;rw[h]at g;subst g)
    go_roundw
    case rel=>exact⟨4,by omega,rfl,uw (k:=3) (f:=fun j=>jr (-1000000000) 1000000000 [En s j]) l i,I p d⟩
    case measure=>simp[intOf]
  .have ha:sm s=true:=by
    have q0:jr (-1000000000) 1000000000 [s.a0]=false:=l 0 (by omega);have q1:jr (-1000000000) 1000000000 [s.a1]=false:=l 1 (by omega);have q2:jr (-1000000000) 1000000000 [s.a2]=false:=l 2 (by omega);have q3:jr (-1000000000) 1000000000 [s.a3]=false:=l 3 (by omega);unfold sm;rw[nY _ _ s.a0,nY _ _ s.a1,nY _ _ s.a2,q0,q1,q2,q3];rfl
   have Ha:=O ha;have Zw:=O (Z1.go p);have Bw:=O (I u p);have a6:=Sw.lt;clear ha l;rw[show((4:Nat):Int)=(4:Int)from rfl];obtain⟨A,rfl⟩:∃A,A=wr:=⟨wr,rfl⟩
   go_wp2_with fail
   clear c0 c1 c2 c3 c4 c5 c6 c7 c8 c9 D E F H K L M N P Q R S
   go_loopw [4] (fun r wr=>∃k:Nat,k<=n/\r=.int .i64 (k:Int)/\(∀j,j<k->mP zs j=true)/\Below A.heap.size A wr) (fun r _=>n-(intOf r).toNat)
   case atStart=>exact⟨0,by omega,rfl,fun j hj=>by omega,TH _ _⟩
   case round=>
    obtain⟨k,hk,rfl,x,m⟩:=hrel;have l:=O x;have t:=O m;have Sv:=O (Y.go Sw m a6);clear x m;obtain⟨c0,c1,c2,c3,c4,c5,c6,c7,c8,c9,D,E,F,H,K,L,M,N,P,Q,R,S⟩:=Sv.cells
    by_cases X:k<n
    .obtain⟨b1,o1,rfl,l1,x0,x1,x2⟩:=(Zw.go t).at3 X
     have T:mP zs k=oH (zs.getD (k*3) 0) (zs.getD (k*3+1) 0) (zs.getD (k*3+2) 0):=rfl;generalize zs.getD (k*3) 0=p0 at*;generalize zs.getD (k*3+1) 0=p1 at*;generalize zs.getD (k*3+2) 0=p2 at*;have C:=O T;clear T
     cases hf:oH p0 p1 p2 with
     |true=>
      have v:=O hf;clear hf
      go_wp2_with((with_reducible refine(xM _ _ _ _).mono ?_);rintro e o ⟨g,d⟩;rw[v]at g;subst g)
      go_roundw
      case rel=>exact⟨k+1,by omega,by go_num,pD l (C.trans v),I t d⟩
      case measure=>simp[intOf];omega
     |false=>
      have v:=O hf;clear hf
      go_wp2_with((with_reducible refine(xM _ _ _ _).mono ?_);rintro e o ⟨g,d⟩;rw[v]at g;subst g)
      go_ret;refine⟨?_,I Bw (I t d)⟩
      have:(List.range n).all (mP zs)=false:=by
       rw[dw];intro y;have:=an.1 y k (aJ.2 X);rw[C,v]at this;cases this
      unfold nX;rw[this,Bool.and_false,Bool.false_and];rfl
    .obtain rfl:k=n:=by omega
     have W:(List.range k).all (mP zs)=true:=an.2 fun j hj=>l j (aJ.1 hj)
     have a4:=O W;have Bv:=O (I Bw t);have a7:=Sv.lt;clear W l
     go_wp2_with(first
      |((with_reducible refine(lZ _ _ _ (by omega) (by omega)).mono ?_);rintro e o ⟨rfl,m⟩;obtain⟨hc,hf⟩:=rp m;(have z:w.heap.size<o.heap.size:=by(have:=m.size;(try simp at this);omega)))
      |((with_reducible refine(pA _ _ hg).mono ?_);rintro e o ⟨rfl,m⟩;obtain⟨hc,hf⟩:=rp m;(have z:w.heap.size<o.heap.size:=by(have:=m.size;(try simp at this);omega))))
     all_goals
      go_ret;refine⟨ai (fun b=>Ending.returned (Value.bool b)) ?_,I Bv (by(repeat (first|exact TH _ _|apply gY|apply jA|exact below_chain1 (by assumption)|(refine I ?_ (by assumption))|(refine qo ?_ ?_))))⟩;rw[Pj Ha a4];rw[bJ];simp[sr,rI, *] <;>omega
end Go.Proofs.YtgohdcccfkjooaaGreatDoor
