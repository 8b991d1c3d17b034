import Derived.Test.YtlnbjinneegciaaGreatDoorOAH
import Derived.Test.YtlnbjinneegciaaGreatDoorOAF
namespace Go.Proofs.YtlnbjinneegciaaGreatDoor
set_option linter.all false
set_option maxRecDepth 100000
set_option maxHeartbeats 12800000
open Go.Proofs.Tryz Go.RowKit
instance:DecidableEq jd:=fun x y=>decidable_of_iff (x.nm=y.nm/\x.zs=y.zs) (by cases x;cases y;simp)
def WU{α:Type}{l l':List α}{n:Nat}(h1:l.length=n)(h2:l'.length=n)(h:∀i,i<n->l[i]? =l'[i]?):l=l':=by
 apply List.ext_getElem?;intro i;by_cases hi:i<n
 .exact h i hi
 .rw[bz (by omega),bz (by omega)]
def X9{p0 p1 c a b d:Int}(h:¬(p0=a/\p1=b/\c=d)):¬p0=a\/(p0=a/\ ¬p1=b)\/(p0=a/\p1=b/\ ¬c=d):=by omega
def WE(l l':List jd)(a b:Option Addr)(n c m d:Nat)(w:World)(h1:RR oB 2 (fun b=>b<w.heap.size) w a n c l)(h2:RR oB 2 (fun b=>b<w.heap.size) w b m d l')(hn:n<=1000000)(hm:m<=1000000):
 Calls prog 41 #[Z a n c,Z b m d] w (iZ w (.bool (decide (l=l')))):=by
 generalize hD:decide (l=l')=D;have X:=O (show¬l=l'->D=false from fun h=>by rw[<- hD];exact aw h);have HT:=O (show l=l'->D=true from fun h=>by rw[<- hD];exact aP h)
 have lx:l.length=n:=by have:=h1.1;omega
 have ly:l'.length=m:=by have:=h2.1;omega
 have Lx:=O lx;have Ly:=O ly;have H1:=O h1;have H2:=O h2;clear h1 h2 hD lx ly;go_enter func41,ntmps41;by_cases M:n=m
 .subst M
  go_wp2
  go_loopw [5] (fun q wr=>∃k:Nat,k<=n/\q=.int .i64 (k:Int)/\(∀i,i<k->l[i]? =l'[i]?)/\Below w w wr) (fun q _=>n-(intOf q).toNat)
  case atStart=>exact⟨0,aA _,rfl,fun i hi=>by omega,TH _ _⟩
  case round=>
   obtain⟨k,hk,rfl,Hp:HQ _,Hb:HQ _⟩:=hrel;by_cases K:k<n
   .obtain⟨b1,o1,y,cs,rfl,l1,E,⟨a2,s,c2,rfl,x,b0,-,a9⟩,T⟩:=(H1.go ky Hb).at K
    obtain⟨b2,o2,o,a8,rfl,l2,v,⟨a3,n3,c3,rfl,z,b5,-,-⟩,u⟩:=(H2.go ky Hb).at K;have P:=O (show y.zs.length=s*3 from x.1);have L3:=O (show o.zs.length=n3*3 from z.1);have x0:=T 0 _ rfl;have x1:=T 1 _ rfl;have z0:=u 0 _ rfl;have W:=u 1 _ rfl;rw[bE]at x0 z0;have a4:=O (x.ir (fun _ h=>h));have a5:=O (z.ir (fun _ h=>h));have X1:=O x1;have Z1:=O W;have t:=O (show¬y=o->D=false from fun h=>X (fun e=>h (by rw[e,v]at E;exact(aE E).symm)));have a0:=O (show y=o->l[k]? =l'[k]? from fun h=>by rw[E,v,h]);clear T u x z E v;by_cases g:y.nm=o.nm
    .by_cases N:s=n3
     .subst N
      go_wp2_with fail
      go_quiet (fail)
      go_wp2
      go_loopw [6] (fun q wq=>∃j:Nat,j<=s/\q=.int .i64 (j:Int)/\(∀i,i<j*3->y.zs.getD i 0=o.zs.getD i 0)/\Below wr wr wq) (fun q _=>s-(intOf q).toNat)
      case atStart=>exact⟨0,aA _,rfl,fun i hi=>by omega,gV (TH _ _) _⟩
      case round=>
       obtain⟨j,hj,rfl,Hq:HQ _,Hb2:HQ _⟩:=hrel;clear x0 x1 z0 W;have x1:=(Hb2.cell (p:=⟨b1,o1+k*2+1,none⟩) l1).trans X1;have W:=(Hb2.cell (p:=⟨b2,o2+k*2+1,none⟩) l2).trans Z1;by_cases H:j<s
       .obtain⟨b3,o3,rfl,l3,p0,p1,p2⟩:=(a4.go Hb2).at3 H
        obtain⟨b4,o4,rfl,l4,q0,q1,q2⟩:=(a5.go Hb2).at3 H;generalize hv0:y.zs.getD (j*3) 0=v0 at*;generalize hv1:y.zs.getD (j*3+1) 0=v1 at*;generalize hv2:y.zs.getD (j*3+2) 0=v2 at*;generalize hu0:o.zs.getD (j*3) 0=u0 at*;generalize hu1:o.zs.getD (j*3+1) 0=u1 at*;generalize hu2:o.zs.getD (j*3+2) 0=u2 at*;have F:=O (show(y.zs.getD (j*3) 0=v0/\y.zs.getD (j*3+1) 0=v1/\y.zs.getD (j*3+2) 0=v2)/\(o.zs.getD (j*3) 0=u0/\o.zs.getD (j*3+1) 0=u1/\o.zs.getD (j*3+2) 0=u2)from⟨⟨hv0,hv1,hv2⟩,hu0,hu1,hu2⟩);clear hv0 hv1 hv2 hu0 hu1 hu2;by_cases r:v0=u0/\v1=u1/\v2=u2
        .obtain⟨rfl,rfl,rfl⟩:=r
         go_wp2_with fail
         go_quiet (fail)
         go_wp2
         go_roundw
         case rel=>
          refine⟨j+1,by omega,by go_num,fun i hi=>?_,gV Hb2 _⟩;obtain⟨⟨B,C,g2⟩,Q,R,S⟩:=F;by_cases a6:i<j*3
          .exact Hq i a6
          .obtain rfl|rfl|rfl:i=j*3\/i=j*3+1\/i=j*3+2:=by omega
           .rw[B,Q]
           .rw[C,R]
           .rw[g2,S]
         case measure=>simp[intOf];omega
        .have f:=O (t (fun h=>r (by obtain⟨⟨B,C,g2⟩,Q,R,S⟩:=F;rw[h]at B C g2;exact⟨B.symm.trans Q,C.symm.trans R,g2.symm.trans S⟩)))
         obtain h0|⟨h0,h1⟩|⟨h0,h1,h2⟩:=X9 r
         .clear r
          go_wp2_with fail
          go_quiet (fail)
          go_wp2;go_ret;exact⟨by rw[f];rfl,I Hb (gV Hb2 _)⟩
         .subst h0
          clear r;go_wp2_with fail
          go_quiet (fail)
          go_wp2;go_ret;exact⟨by rw[f];rfl,I Hb (gV Hb2 _)⟩
         .subst h0 h1
          clear r;go_wp2_with fail
          go_quiet (fail)
          go_wp2;go_ret;exact⟨by rw[f];rfl,I Hb (gV Hb2 _)⟩
       .obtain rfl:j=s:=by omega
        have A:=Ww (P.trans L3.symm) (fun i hi=>Hq i (by rw[<- P];exact hi));have a1:=O (a0 (by cases y;cases o;simp only at g A;rw[g,A]));clear A;go_wp2
        go_roundw
        case rel=>
         refine⟨k+1,by omega,by go_num,fun i hi=>?_,I Hb Hb2⟩;by_cases a7:i<k
         .exact Hp i a7
         .obtain rfl:i=k:=by omega
          exact a1
        case measure=>simp[intOf];omega
     .have f:=O (t (fun h=>N (by have:=P.out;have:=L3.out;rw[h]at*;omega)))
      go_wp2_with fail
      go_quiet (fail)
      go_wp2;go_ret;exact⟨by rw[f];rfl,gV Hb _⟩
    .have f:=O (t (fun h=>g (by rw[h])))
     have L:¬y.nm.toList=o.nm.toList:=fun h=>g (WI h)
     go_wp2_with fail
     go_quiet (fail)
     go_wp2;go_ret;exact⟨by rw[f];rfl,gV Hb _⟩
   .obtain rfl:k=n:=by omega
    have f:=O (HT (WU Lx Ly Hp));go_wp2;go_ret;exact⟨by rw[f];rfl,Hb⟩
 .have f:=O (X (fun h=>M (by have:=Lx.out;have:=Ly.out;rw[h]at*;omega)))
  go_wp2;go_ret;exact⟨by rw[f];rfl,TH _ _⟩
