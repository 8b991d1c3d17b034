import Derived.Test.YtgohdcccfkjooaaGreatDoorQAH
namespace Go.Proofs.YtgohdcccfkjooaaGreatDoor
set_option linter.all false
set_option maxRecDepth 100000
set_option maxHeartbeats 1600000
open Go.Proofs.Tryz Go.RowKit
def pC(s:gW)(zs:List Int)(n:Nat):Nat->Bool
 |0=>rK s zs
 |1=>uU s
 |2=>uV s
 |3=>uW s
 |4=>xI s
 |5=>rI s
 |6=>decide (n<=8)
 |_=>true
def uX(s:gW)(zs:List Int)(n:Nat):Bool:=(List.range 7).all (pC s zs n)
def mP(zs:List Int)(k:Nat):Bool:=oH (zs.getD (k*3) 0) (zs.getD (k*3+1) 0) (zs.getD (k*3+2) 0)
def oA(s:gW)(zs:List Int)(n:Nat):Bool:=uX s zs n&& (List.range n).all (mP zs)
def err(b:Bool)(e:Int):Value:=.int .i64 (if b then 0 else e)
def pD{f:Nat->Bool}{k}(h:∀j,j<k->f j=true)(a:f k=true):∀j,j<k+1->f j=true:=fun j b=>by
 by_cases e:j=k
 .subst e;exact a
 .exact h j (by omega)
def oI{s zs n k}(b:k<7)(h:pC s zs n k=false):uX s zs n=false:=by
 rw[dw];intro a;have:=an.1 a k (aJ.2 b);rw[h]at this;cases this
def GA{s zs n}(h:∀j,j<7->pC s zs n j=true):uX s zs n=true:=
 an.2 fun j a=>h j (aJ.1 a)
def kJ{P o a}{K:Act->World->Prop}{Q:Exit->Act->World->Prop}{v w}(h:K (a.put o.dst v) w):Oper.upon P o a K Q (.ok (.value v) w):=h
def BL(b x1 x2 c d e f w):((Sem.run prog (Instr.index 290 (Value.agg #[b,x1,x2,c,d,e,f]) (Value.int IntKind.i64 0)) w).andThen fun a w'=>Result.ok (Next.value a) w')=Result.ok (Next.value b) w:=by kernel_rfl
def BM(b x1 x2 c d e f w):((Sem.run prog (Instr.index 290 (Value.agg #[b,x1,x2,c,d,e,f]) (Value.int IntKind.i64 1)) w).andThen fun a w'=>Result.ok (Next.value a) w')=Result.ok (Next.value x1) w:=by kernel_rfl
def BN(b x1 x2 c d e f w):((Sem.run prog (Instr.index 290 (Value.agg #[b,x1,x2,c,d,e,f]) (Value.int IntKind.i64 2)) w).andThen fun a w'=>Result.ok (Next.value a) w')=Result.ok (Next.value x2) w:=by kernel_rfl
def BO(c x1 x2 b d e f w):((Sem.run prog (Instr.index 290 (Value.agg #[c,x1,x2,b,d,e,f]) (Value.int IntKind.i64 3)) w).andThen fun a w'=>Result.ok (Next.value a) w')=Result.ok (Next.value b) w:=by kernel_rfl
def BP(c x1 x2 d b e f w):((Sem.run prog (Instr.index 290 (Value.agg #[c,x1,x2,d,b,e,f]) (Value.int IntKind.i64 4)) w).andThen fun a w'=>Result.ok (Next.value a) w')=Result.ok (Next.value b) w:=by kernel_rfl
def BQ(c x1 x2 d e b f w):((Sem.run prog (Instr.index 290 (Value.agg #[c,x1,x2,d,e,b,f]) (Value.int IntKind.i64 5)) w).andThen fun a w'=>Result.ok (Next.value a) w')=Result.ok (Next.value b) w:=by kernel_rfl
def BS(c x1 x2 d e f b w):((Sem.run prog (Instr.index 290 (Value.agg #[c,x1,x2,d,e,f,b]) (Value.int IntKind.i64 6)) w).andThen fun a w'=>Result.ok (Next.value a) w')=Result.ok (Next.value b) w:=by kernel_rfl
def xK{w:World}{g l T}(h:w.heap[g]? =some (.cells l.toArray T (0,0))):w.rangeAt g 0 l:=by
 intro j v a;simp only[World.cell?,h,aV];simpa using a
def nC(s zs a n c)(w:World)(hz:IR w w 3 a n c zs)(hn:n<=1000000)(hg:s.glass.size<=9223372036854775807):
 Calls prog 164 #[.agg (⟨s,a,n,c⟩:jt)] w (iZ w (err (oA s zs n) 110)):=by
 have h1:=Y.new w s a n c;have H1:=O h1;have Hz:=O hz;clear h1 hz
 go_enter func164,ntmps164
 have h2:=TL (w.alloc (.cells (⟨s,a,n,c⟩:jt) 70)) (.cells #[.nilFunc,.nilFunc,.nilFunc,.nilFunc,.nilFunc,.nilFunc,.nilFunc] 290);rw[nB]at h2;have H2:=O h2;clear h2
 have a2:∀(a:Addr)(f:Fn)(x y:Array Value)(m:Mode)(w:World),(store a (.func f x y) m).run prog w=stored prog w a (.func f x y) m:=fun a f x y m w=>run_store prog w a _ m rfl
 go_wp2_with fail
 go_step3
 go_wp2_with fail
 go_step3
 go_upto_block 0 with fail
 refine gI (fun F=>Y F w s a n c/\Below w w F) ⟨Y.go (B:=w.heap.size+1) H1 ((TH _ _).alloc (by simp) _) (by omega),gY (gY (TH _ _))⟩ ?_;clear H1 H2 a2;rintro E ⟨h1,A⟩;have S1:=O h1;have B1:=O A;have Z1:=O (Hz.go A);have hl:=h1.lt;clear h1 A
 go_cut [4,6]from 17 to 25 (fun r v6 F=>r=err (uX s zs n) 110/\Below E E F)
 case first=>
  go_wp2_with fail
  go_loopw [4,18] (fun r q wr=>∃k:Nat,k<=7/\q=.int .i64 (k:Int)/\r=.int .i64 0/\(∀j,j<k->pC s zs n j=true)/\Below E E wr) (fun _ q _=>7-(intOf q).toNat)
  case atStart=>exact⟨0,by omega,rfl,rfl,fun j hj=>by omega,TH _ _⟩
  case round=>
   obtain⟨k,hk,rfl,rfl,ht,l⟩:=hrel;have t:=O ht;have i:=O l;have p:=O (Y.go S1 l hl);have Zw:=O (Z1.go l);clear ht l
   have a1:k=0\/k=1\/k=2\/k=3\/k=4\/k=5\/k=6\/k=7:=by omega
   obtain rfl|rfl|rfl|rfl|rfl|rfl|rfl|rfl:=a1
   .cases b:pC s zs n 0 with
    |true=>
     have h:=O b;clear b
     go_wp2_with fail
     rw[BL];refine kJ ?_;simp only[V]
     go_wp2_with((with_reducible refine(BK s zs a n c w _ p.out Zw.out hn).mono ?_);rintro e o ⟨d,g⟩;rw[show rK s zs=_ from h]at d;subst d)
     go_roundw
     case rel=>exact⟨1,by omega,rfl,rfl,pD t h,I i g⟩
     case measure=>simp[intOf]
    |false=>
     have h:=O b;clear b
     go_wp2_with fail
     rw[BL];refine kJ ?_;simp only[V]
     go_wp2_with((with_reducible refine(BK s zs a n c w _ p.out Zw.out hn).mono ?_);rintro e o ⟨d,g⟩;rw[show rK s zs=_ from h]at d;subst d)
     go_meet;exact⟨by rw[oI (k:=0) (by omega) h];rfl,I i g⟩
   .cases b:pC s zs n 1 with
    |true=>
     have h:=O b;clear b
     go_wp2_with fail
     rw[BM];refine kJ ?_;simp only[V]
     go_wp2_with((with_reducible refine(BC s a n c w _ p.out).mono ?_);rintro e o ⟨d,g⟩;rw[show uU s=_ from h]at d;subst d)
     go_roundw
     case rel=>exact⟨2,by omega,rfl,rfl,pD t h,I i g⟩
     case measure=>simp[intOf]
    |false=>
     have h:=O b;clear b
     go_wp2_with fail
     rw[BM];refine kJ ?_;simp only[V]
     go_wp2_with((with_reducible refine(BC s a n c w _ p.out).mono ?_);rintro e o ⟨d,g⟩;rw[show uU s=_ from h]at d;subst d)
     go_meet;exact⟨by rw[oI (k:=1) (by omega) h];rfl,I i g⟩
   .cases b:pC s zs n 2 with
    |true=>
     have h:=O b;clear b
     go_wp2_with fail
     rw[BN];refine kJ ?_;simp only[V]
     go_wp2_with((with_reducible refine(BD s a n c w _ p.out).mono ?_);rintro e o ⟨d,g⟩;rw[show uV s=_ from h]at d;subst d)
     go_roundw
     case rel=>exact⟨3,by omega,rfl,rfl,pD t h,I i g⟩
     case measure=>simp[intOf]
    |false=>
     have h:=O b;clear b
     go_wp2_with fail
     rw[BN];refine kJ ?_;simp only[V]
     go_wp2_with((with_reducible refine(BD s a n c w _ p.out).mono ?_);rintro e o ⟨d,g⟩;rw[show uV s=_ from h]at d;subst d)
     go_meet;exact⟨by rw[oI (k:=2) (by omega) h];rfl,I i g⟩
   .cases b:pC s zs n 3 with
    |true=>
     have h:=O b;clear b
     go_wp2_with fail
     rw[BO];refine kJ ?_;simp only[V]
     go_wp2_with((with_reducible refine(BE s a n c w _ p.out).mono ?_);rintro e o ⟨d,g⟩;rw[show uW s=_ from h]at d;subst d)
     go_roundw
     case rel=>exact⟨4,by omega,rfl,rfl,pD t h,I i g⟩
     case measure=>simp[intOf]
    |false=>
     have h:=O b;clear b
     go_wp2_with fail
     rw[BO];refine kJ ?_;simp only[V]
     go_wp2_with((with_reducible refine(BE s a n c w _ p.out).mono ?_);rintro e o ⟨d,g⟩;rw[show uW s=_ from h]at d;subst d)
     go_meet;exact⟨by rw[oI (k:=3) (by omega) h];rfl,I i g⟩
   .cases b:pC s zs n 4 with
    |true=>
     have h:=O b;clear b
     go_wp2_with fail
     rw[BP];refine kJ ?_;simp only[V]
     go_wp2_with((with_reducible refine(BF s a n c w _ p.out).mono ?_);rintro e o ⟨d,g⟩;rw[show xI s=_ from h]at d;subst d)
     go_roundw
     case rel=>exact⟨5,by omega,rfl,rfl,pD t h,I i g⟩
     case measure=>simp[intOf]
    |false=>
     have h:=O b;clear b
     go_wp2_with fail
     rw[BP];refine kJ ?_;simp only[V]
     go_wp2_with((with_reducible refine(BF s a n c w _ p.out).mono ?_);rintro e o ⟨d,g⟩;rw[show xI s=_ from h]at d;subst d)
     go_meet;exact⟨by rw[oI (k:=4) (by omega) h];rfl,I i g⟩
   .cases b:pC s zs n 5 with
    |true=>
     have h:=O b;clear b
     go_wp2_with fail
     rw[BQ];refine kJ ?_;simp only[V]
     go_wp2_with((with_reducible refine(BH s a n c w _ p.out hg).mono ?_);rintro e o ⟨d,g⟩;rw[show rI s=_ from h]at d;subst d)
     go_roundw
     case rel=>exact⟨6,by omega,rfl,rfl,pD t h,I i g⟩
     case measure=>simp[intOf]
    |false=>
     have h:=O b;clear b
     go_wp2_with fail
     rw[BQ];refine kJ ?_;simp only[V]
     go_wp2_with((with_reducible refine(BH s a n c w _ p.out hg).mono ?_);rintro e o ⟨d,g⟩;rw[show rI s=_ from h]at d;subst d)
     go_meet;exact⟨by rw[oI (k:=5) (by omega) h];rfl,I i g⟩
   .cases b:pC s zs n 6 with
    |true=>
     have h:=O b;clear b
     go_wp2_with fail
     rw[BS];refine kJ ?_;simp only[V]
     go_wp2_with((with_reducible refine(BG s a n c w _ p.out).mono ?_);rintro e o ⟨d,g⟩;rw[show decide (n<=8)=_ from h]at d;subst d)
     go_roundw
     case rel=>exact⟨7,by omega,rfl,rfl,pD t h,I i g⟩
     case measure=>simp[intOf]
    |false=>
     have h:=O b;clear b
     go_wp2_with fail
     rw[BS];refine kJ ?_;simp only[V]
     go_wp2_with((with_reducible refine(BG s a n c w _ p.out).mono ?_);rintro e o ⟨d,g⟩;rw[show decide (n<=8)=_ from h]at d;subst d)
     go_meet;exact⟨by rw[oI (k:=6) (by omega) h];rfl,I i g⟩
   .go_wp2_with fail
    go_meet;exact⟨by rw[GA t];rfl,i⟩
 case rest=>
  obtain⟨rfl,l⟩:=hcut;have Sc:=O (Y.go S1 l hl);have Zc:=O (Z1.go l);have Bc:=O (I B1 l);have a4:w.heap.size<wc.heap.size:=ab hl l.size;have u:=Zc.1;have a3:=O u;clear l S1 B1 Z1 u;obtain⟨k0,k1,k2,k3,k4,k5,k6,k7,k8,k9,K,L,M,N,P,Q,R,S,T,W,X,a0⟩:=Sc.cells;generalize b:err (uX s zs n) 110=r at*
  cases hT:uX s zs n with
  |false=>
   have HT:=O hT
   obtain rfl:r=.int .i64 110:=by rw[<- b,hT];rfl
   clear b hT
   go_wp2_with fail
   clear k0 k1 k2 k3 k4 k5 k6 k7 k8 k9 K L M N P Q R S T W X a0
   go_loopw [4,28] (fun r q wr=>∃k:Nat,k<=n/\q=.int .i64 (k:Int)/\r=.int .i64 110/\Below wc wc wr) (fun _ q _=>n-(intOf q).toNat)
   case atStart=>exact⟨0,by omega,rfl,rfl,TH _ _⟩
   case round=>
    obtain⟨k,hk,rfl,rfl,l⟩:=hrel;have i:=O l;clear l
    by_cases C:k<n
    .obtain⟨b1,o1,rfl,l1,x0,x1,x2⟩:=(Zc.go i).at3 C
     go_wp2_with fail
     go_roundw
     case rel=>exact⟨k+1,by omega,by go_num,rfl,by(repeat (first|exact i|apply gY|apply jA|(refine I ?_ (by assumption))))⟩
     case measure=>simp[intOf];omega
    .go_wp2
     go_ret;exact⟨by unfold oA;rw[HT];rfl,I Bc i⟩
  |true=>
   have HT:=O hT
   obtain rfl:r=.int .i64 0:=by rw[<- b,hT];rfl
   clear b hT
   go_wp2_with fail
   clear k0 k1 k2 k3 k4 k5 k6 k7 k8 k9 K L M N P Q R S T W X a0
   go_loopw [4,28] (fun r q wr=>∃k:Nat,k<=n/\q=.int .i64 (k:Int)/\r=err ((List.range k).all (mP zs)) 110/\Below wc wc wr) (fun _ q _=>n-(intOf q).toNat)
   case atStart=>exact⟨0,by omega,rfl,rfl,TH _ _⟩
   case round=>
    obtain⟨k,hk,rfl,b,l⟩:=hrel;have i:=O l;clear l
    by_cases C:k<n
    .obtain⟨b1,o1,rfl,l1,x0,x1,x2⟩:=(Zc.go i).at3 C
     have H:(List.range (k+1)).all (mP zs)=((List.range k).all (mP zs)&&oH (zs.getD (k*3) 0) (zs.getD (k*3+1) 0) (zs.getD (k*3+2) 0)):=by
      rw[bV,er];simp[mP]
     have z:=O H;clear H;generalize zs.getD (k*3) 0=p0 at*;generalize zs.getD (k*3+1) 0=p1 at*;generalize zs.getD (k*3+2) 0=p2 at*
     cases hT:(List.range k).all (mP zs)with
     |false=>
      have D:=O hT;rw[hT]at b;replace b:=b.trans (show err false 110=Value.int .i64 110 from rfl);subst b;clear hT
      go_wp2_with fail
      go_roundw
      case rel=>exact⟨k+1,by omega,by go_num,by rw[z,D];rfl,by(repeat (first|exact i|apply gY|apply jA|(refine I ?_ (by assumption))))⟩
      case measure=>simp[intOf];omega
     |true=>
      have D:=O hT;rw[hT]at b;replace b:=b.trans (show err true 110=Value.int .i64 0 from rfl);subst b;clear hT
      cases hf:oH p0 p1 p2 with
      |true=>
       have v:=O hf;clear hf
       go_wp2_with((with_reducible refine(Eg _ _ _ _).mono ?_);rintro e o ⟨d,g⟩;rw[v]at d;subst d)
       go_roundw
       case rel=>exact⟨k+1,by omega,by go_num,by rw[z,D,v];rfl,by(repeat (first|exact i|apply gY|apply jA|(refine I ?_ (by assumption))))⟩
       case measure=>simp[intOf];omega
      |false=>
       have v:=O hf;clear hf
       go_wp2_with((with_reducible refine(Eg _ _ _ _).mono ?_);rintro e o ⟨d,g⟩;rw[v]at d;subst d)
       go_roundw
       case rel=>exact⟨k+1,by omega,by go_num,by rw[z,D,v];rfl,by(repeat (first|exact i|apply gY|apply jA|(refine I ?_ (by assumption))))⟩
       case measure=>simp[intOf];omega
    .obtain rfl:k=n:=by omega
     go_wp2;go_ret;exact⟨by rw[b];unfold oA;rw[HT];rfl,I Bc i⟩
end Go.Proofs.YtgohdcccfkjooaaGreatDoor
