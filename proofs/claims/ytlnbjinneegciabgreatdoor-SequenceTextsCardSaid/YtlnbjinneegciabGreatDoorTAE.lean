import Derived.Test.YtlnbjinneegciabGreatDoorTAB
namespace Go.Proofs.YtlnbjinneegciabGreatDoor
set_option linter.all false
set_option maxRecDepth 100000
set_option maxHeartbeats 3200000
open Go.Proofs.Tryz Go.RowKit
def Sm(b a k:Int):jr b a [k]=(decide (k<b)||decide (a<k)):=by simp[jr]
def lZ(k a:Int)(w:World)(h0:0<=a)(h1:a<=9223372036854775807):Calls prog 98 #[k,a] w (iZ w (.bool (!jr (-a) a [k]))):=by
 go_enter func98,ntmps98;go_wp2
 all_goals
  go_ret;refine⟨ai (fun b=>Ending.returned (Value.bool b)) ?_,TH _ _⟩;rw[bJ];simp[Sm] <;>omega
def xM(i p q:Int)(w:World):Calls prog 99 #[.agg #[i,p,q]] w (iZ w (.bool (oH i p q))):=by
 go_enter func99,ntmps99;go_wp2
 all_goals
  go_ret;refine⟨ai (fun b=>Ending.returned (Value.bool b)) ?_,by(repeat (first|exact TH _ _|apply gY|apply jA|exact below_chain1 (by assumption)|(refine I ?_ (by assumption))|(refine qo ?_ ?_)))⟩;rw[bJ];simp[oH,Sm] <;>omega
def En(s:gW):Nat->Int
 |0=>s.a0
 |1=>s.a1
 |2=>s.a2
 |_=>s.a3
def sm(s:gW):Bool:=!jr (-1000000000) 1000000000 [s.a0,s.a1,s.a2,s.a3]
def sr(s:gW)(n:Nat):Bool:=
 !jr (-1000000000) 1000000000 [s.r9]&& !jr (-1000000000) 1000000000 [s.i5]&& !jr (-100000000) 100000000 [s.i4]&& !jr (-100000000) 100000000 [s.cm]&& !jr (-1000000000) 1000000000 [s.p0]&& !jr (-1000000000) 1000000000 [s.p1]&& !jr (-1000000000) 1000000000 [s.tg]&& !jr (-1000000000) 1000000000 [s.dx]&& !jr (-1000000000) 1000000000 [s.dy]&&
 !jr (-90000000) 90000000 [s.ax]&& !jr (-90000000) 90000000 [s.ay]&& !jr (-90000000) 90000000 [s.az]&& (decide (0<=s.i6)&&decide (s.i6<=1000000000)&&decide (0<=s.i7)&&decide (s.i7<=1000000000)&& (decide (s.i6<=0)||decide (s.i7<s.i6)))&& (decide (-3<=s.order)&&decide (s.order<=3))&&decide (n<=8)&&rI s
def nX(s:gW)(zs:List Int)(n:Nat):Bool:=sm s&& (List.range n).all (mP zs)&&sr s n
def uw{f:Nat->Bool}{k:Nat}(h:∀j,j<k->f j=false)(a:f k=false):∀j,j<k+1->f j=false:=fun j b=>by
 by_cases e:j=k
 .subst e;exact a
 .exact h j (by omega)
def Pj{s:gW}{zs:List Int}{n:Nat}(h1:sm s=true)(h2:(List.range n).all (mP zs)=true):nX s zs n=sr s n:=by
 unfold nX;rw[h1,h2];rfl
def nY(b a k:Int)(l:List Int):jr b a (k::l)=(jr b a [k]||jr b a l):=by simp[jr]
def yH{s:gW}{zs:List Int}{n:Nat}(h:jr (-1000000000) 1000000000 [s.a0]=true\/jr (-1000000000) 1000000000 [s.a1]=true\/jr (-1000000000) 1000000000 [s.a2]=true\/jr (-1000000000) 1000000000 [s.a3]=true):nX s zs n=false:=by
 unfold nX sm;rw[nY _ _ s.a0,nY _ _ s.a1,nY _ _ s.a2]
 obtain h|h|h|h:=h<;>simp[h]
def zm(s:gW)(zs:List Int)(a:Option Addr)(n c:Nat)(w:World)(x:IR w w 3 a n c zs)(hn:n<=1000000)(hg:s.gA.size<=9223372036854775807):
 Calls prog 61 #[.agg (⟨s,a,n,c⟩:jt)] w (iZ w (.bool (nX s zs n))):=by
 have X:=O (Y.new w s a n c);have z:=O ((TH w w).alloc (ag _) (.cells (⟨s,a,n,c⟩:jt) 58));have Hz:=O x;clear x;go_enter func61,ntmps61;go_upto_region 1 with fail;refine gI (fun wx=>Y wx w s a n c/\Below w w wx) ⟨X,z⟩ ?_;clear X z;rintro w1 ⟨h1,u⟩;have S1:=O h1;have r:=O u;have Z1:=O (Hz.go u);have hl:=h1.lt;clear h1 u;go_wp2
 go_loopw [3] (fun p wr=>∃k:Nat,k<=4/\p=.int .i64 (k:Int)/\(∀j,j<k->jr (-1000000000) 1000000000 [En s j]=false)/\Below w1 w1 wr) (fun p _=>4-(intOf p).toNat)
 case atStart=>exact⟨0,by omega,rfl,fun j T=>by omega,TH _ _⟩
 case round=>
  obtain⟨k,hk,rfl,l:HQ _,hb⟩:=hrel;have o:=O hb;have S:=O (Y.go S1 hb hl);clear hb;obtain⟨c0,c1,c2,c3,c4,c5,c6,c7,c8,c9,B,C,D,E,F,H,K,L,M,N,P,Q⟩:=S.cells
  have a5:k=0\/k=1\/k=2\/k=3\/k=4:=by omega
  obtain rfl|rfl|rfl|rfl|rfl:=a5
  .cases hv:jr (-1000000000) 1000000000 [s.a0]with
   |true=>
    have h:=O (show(!jr (-1000000000) 1000000000 [s.a0])=false by rw[hv];rfl);have i:=O hv;clear hv
    go_wp2_with((with_reducible refine(lZ _ _ _ (by omega) (by omega)).mono ?_);rintro e m ⟨g,d⟩;rw[h]at g;subst g)
    go_ret;exact⟨by rw[yH (VR i.out)];rfl,I r (I o d)⟩
   |false=>
    have h:=O (show(!jr (-1000000000) 1000000000 [s.a0])=true by rw[hv];rfl);have i:=O hv;clear hv
    go_wp2_with((with_reducible refine(lZ _ _ _ (by omega) (by omega)).mono ?_);rintro e m ⟨g,d⟩;rw[h]at g;subst g)
    go_roundw
    case rel=>exact⟨1,by omega,rfl,uw (k:=0) (f:=fun j=>jr (-1000000000) 1000000000 [En s j]) l i,I o d⟩
    case measure=>simp[intOf]
  .cases hv:jr (-1000000000) 1000000000 [s.a1]with
   |true=>
    have h:=O (show(!jr (-1000000000) 1000000000 [s.a1])=false by rw[hv];rfl);have i:=O hv;clear hv
    go_wp2_with((with_reducible refine(lZ _ _ _ (by omega) (by omega)).mono ?_);rintro e m ⟨g,d⟩;rw[h]at g;subst g)
    go_ret;exact⟨by rw[yH (VS (VR i.out))];rfl,I r (I o d)⟩
   |false=>
    have h:=O (show(!jr (-1000000000) 1000000000 [s.a1])=true by rw[hv];rfl);have i:=O hv;clear hv
    go_wp2_with((with_reducible refine(lZ _ _ _ (by omega) (by omega)).mono ?_);rintro e m ⟨g,d⟩;rw[h]at g;subst g)
    go_roundw
    case rel=>exact⟨2,by omega,rfl,uw (k:=1) (f:=fun j=>jr (-1000000000) 1000000000 [En s j]) l i,I o d⟩
    case measure=>simp[intOf]
  .cases hv:jr (-1000000000) 1000000000 [s.a2]with
   |true=>
    have h:=O (show(!jr (-1000000000) 1000000000 [s.a2])=false by rw[hv];rfl);have i:=O hv;clear hv
    go_wp2_with((with_reducible refine(lZ _ _ _ (by omega) (by omega)).mono ?_);rintro e m ⟨g,d⟩;rw[h]at g;subst g)
    go_ret;exact⟨by rw[yH (VS (VS (VR i.out)))];rfl,I r (I o d)⟩
   |false=>
    have h:=O (show(!jr (-1000000000) 1000000000 [s.a2])=true by rw[hv];rfl);have i:=O hv;clear hv
    go_wp2_with((with_reducible refine(lZ _ _ _ (by omega) (by omega)).mono ?_);rintro e m ⟨g,d⟩;rw[h]at g;subst g)
    go_roundw
    case rel=>exact⟨3,by omega,rfl,uw (k:=2) (f:=fun j=>jr (-1000000000) 1000000000 [En s j]) l i,I o d⟩
    case measure=>simp[intOf]
  .cases hv:jr (-1000000000) 1000000000 [s.a3]with
   |true=>
    have h:=O (show(!jr (-1000000000) 1000000000 [s.a3])=false by rw[hv];rfl);have i:=O hv;clear hv
    go_wp2_with((with_reducible refine(lZ _ _ _ (by omega) (by omega)).mono ?_);rintro e m ⟨g,d⟩;rw[h]at g;subst g)
    go_ret;exact⟨by rw[yH (VS (VS (VS i.out)))];rfl,I r (I o d)⟩
   |false=>
    have h:=O (show(!jr (-1000000000) 1000000000 [s.a3])=true by rw[hv];rfl);have i:=O hv;clear hv
    go_wp2_with((with_reducible refine(lZ _ _ _ (by omega) (by omega)).mono ?_);rintro e m ⟨g,d⟩;rw[h]at g;subst g)
    go_roundw
    case rel=>exact⟨4,by omega,rfl,uw (k:=3) (f:=fun j=>jr (-1000000000) 1000000000 [En s j]) l i,I o d⟩
    case measure=>simp[intOf]
  .have ha:sm s=true:=by
    have q0:jr (-1000000000) 1000000000 [s.a0]=false:=l 0 (by omega);have q1:jr (-1000000000) 1000000000 [s.a1]=false:=l 1 (by omega);have q2:jr (-1000000000) 1000000000 [s.a2]=false:=l 2 (by omega);have q3:jr (-1000000000) 1000000000 [s.a3]=false:=l 3 (by omega);unfold sm;rw[nY _ _ s.a0,nY _ _ s.a1,nY _ _ s.a2,q0,q1,q2,q3];rfl
   have Ha:=O ha;have Zw:=O (Z1.go o);have W:=O (I r o);have a6:=S.lt;clear ha l;rw[show((4:Nat):Int)=(4:Int)from rfl];obtain⟨y,rfl⟩:∃y,y=wr:=⟨wr,rfl⟩;go_wp2_with fail;clear c0 c1 c2 c3 c4 c5 c6 c7 c8 c9 B C D E F H K L M N P Q
   go_loopw [4] (fun p wr=>∃k:Nat,k<=n/\p=.int .i64 (k:Int)/\(∀j,j<k->mP zs j=true)/\Below y.heap.size y wr) (fun p _=>n-(intOf p).toNat)
   case atStart=>exact⟨0,by omega,rfl,fun j T=>by omega,TH _ _⟩
   case round=>
    obtain⟨k,hk,rfl,l:HQ _,hb⟩:=hrel;have q:=O hb;have Sv:=O (Y.go S hb a6);clear hb;obtain⟨c0,c1,c2,c3,c4,c5,c6,c7,c8,c9,B,C,D,E,F,H,K,L,M,N,P,Q⟩:=Sv.cells;by_cases R:k<n
    .obtain⟨b1,o1,rfl,l1,x0,x1,x2⟩:=(Zw.go q).at3 R
     have A:=O (show mP zs k=oH (zs.getD (k*3) 0) (zs.getD (k*3+1) 0) (zs.getD (k*3+2) 0)from rfl);generalize zs.getD (k*3) 0=p0 at*;generalize zs.getD (k*3+1) 0=p1 at*;generalize zs.getD (k*3+2) 0=p2 at*
     cases hf:oH p0 p1 p2 with
     |true=>
      have t:=O hf;clear hf
      go_wp2_with((with_reducible refine(xM _ _ _ _).mono ?_);rintro e m ⟨g,d⟩;rw[t]at g;subst g)
      go_roundw
      case rel=>exact⟨k+1,by omega,by go_num,pD l (A.trans t),I q d⟩
      case measure=>simp[intOf];omega
     |false=>
      have t:=O hf;clear hf
      go_wp2_with((with_reducible refine(xM _ _ _ _).mono ?_);rintro e m ⟨g,d⟩;rw[t]at g;subst g)
      go_ret;refine⟨?_,I W (I q d)⟩
      have:(List.range n).all (mP zs)=false:=by
       rw[dw];intro v;have:=an.1 v k (aJ.2 R);rw[A,t]at this;cases this
      unfold nX;rw[this,Bool.and_false,Bool.false_and];rfl
    .obtain rfl:k=n:=by omega
     have a4:=O (show(List.range k).all (mP zs)=true from an.2 fun j T=>l j (aJ.1 T));have Bv:=O (I W q);have a7:=Sv.lt;clear l
     go_wp2_with(first
      |((with_reducible refine(lZ _ _ _ (by omega) (by omega)).mono ?_);rintro e m ⟨rfl,hb⟩;obtain⟨hc,hf⟩:=rp hb;(have x:w.heap.size<m.heap.size:=by(have:=hb.size;(try simp at this);omega)))
      |((with_reducible refine(pA _ _ hg).mono ?_);rintro e m ⟨rfl,hb⟩;obtain⟨hc,hf⟩:=rp hb;(have x:w.heap.size<m.heap.size:=by(have:=hb.size;(try simp at this);omega))))
     all_goals
      go_ret;refine⟨ai (fun b=>Ending.returned (Value.bool b)) ?_,I Bv (by(repeat (first|exact TH _ _|apply gY|apply jA|exact below_chain1 (by assumption)|(refine I ?_ (by assumption))|(refine qo ?_ ?_))))⟩;rw[Pj Ha a4];rw[bJ];simp[sr,rI, *] <;>omega
