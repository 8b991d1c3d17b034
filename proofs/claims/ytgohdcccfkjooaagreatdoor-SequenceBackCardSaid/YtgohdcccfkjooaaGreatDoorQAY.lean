import Derived.Test.YtgohdcccfkjooaaGreatDoorQAW
namespace Go.Proofs.YtgohdcccfkjooaaGreatDoor
set_option linter.all false
set_option maxRecDepth 100000
set_option maxHeartbeats 3200000
open Go.Proofs.Tryz Go.RowKit
def zy(x a n c)(w:World)(p:IR w w 3 a n c x.zs)(t:n<=1000000)(q:x.s.glass.size<=9223372036854775807):
 Calls prog 149 #[.agg (⟨x.s,a,n,c⟩:jt)] w (iZ w (.bool (tr x&&pM x.s n))):=by
 have h:n=x.zs.length/3:=by rw[p.1];omega
 have m:tr x=oA x.s x.zs n:=by unfold tr;rw[<- h]
 have h1:=Y.new w x.s a n c;have d:=(TH w w).alloc (aa _) (.cells (⟨x.s,a,n,c⟩:jt) 70);have o:=O p;have f:=O h1;have b:=O d;have k:=O m;clear p h1 d h m
 go_enter func149,ntmps149
 go_upto_region 1 with fail
 refine gI (fun A=>Y A w x.s a n c/\Below w w A) ⟨f,b⟩ ?_;clear f b;rintro C ⟨h1,d⟩;have r:=h1.lt;have f:=O h1;have b:=O d;clear h1 d;cases ho:oA x.s x.zs n
 case false=>
  have i:=O ho;clear ho
  go_wp2_with(first
   |(refine gO f rfl (.tmp 1) rfl rfl ?_)
   |((with_reducible refine(lN x.s x.zs a n c _ (o.out.go b.out) t q).mono ?_);rintro e B ⟨l,j⟩;rw[i]at l;subst l;have g:=O j;clear j))
  go_ret;exact⟨by rw[k,i];rfl,I b g⟩
 case true=>
  have i:=O ho;clear ho;cases q1:(x.s.kind==1) <;>cases q2:x.s.glass.toList.isEmpty<;>cases q3:(x.s.thick==0) <;>cases q4:(x.s.order==0) <;>cases q5:((n:Int)==0)
  all_goals
   go_wp2_with(first
    |(refine gO f rfl (.tmp 1) rfl rfl ?_)
    |((with_reducible refine(lN x.s x.zs a n c _ (o.out.go b.out) t q).mono ?_);rintro e B ⟨l,j⟩;rw[i]at l;subst l;obtain⟨k0,_,_,_,_,_,_,_,_,_,_,u,v,y,_,_,_,_,_,_,_,z⟩:=(f.go j r).cells;have g:=O j;clear j))
   go_ret;refine⟨?_,I b g⟩;rw[k,i];clear b g k0 u v y z o f k i;simp[pM,q2]at*
   try omega
def uY(x f v s k w)(hf:RR jE 22 (fun b=>b<w.heap.size) w s.a s.n s.c x.l)(hn:s.n<=1000000):
 Calls prog 111 #[ry x f v s k] w (iZ w (.bool (iW x.stop x.l))):=by
 have Hf:=O hf;have K:=hf.1;clear hf;obtain⟨sa,n,sc⟩:=s;simp only at*;have b8:hU (w.alloc (.cells (iw x f v ⟨sa,n,sc⟩ k).toArray 37)) w 37 x f v ⟨sa,n,sc⟩ k:=TL w _;have b7:=(TH w w).alloc (aa _) (.cells (iw x f v ⟨sa,n,sc⟩ k).toArray 37);have b3:=O b8;have b0:=O b7;clear b8 b7
 have R:iW x.stop x.l=(bt (n:Int) 2 16&&bt x.stop 0 ((n:Int)-2)&& !uM x.l&&pe x.l&& (kU x.l x.stop !=3)):=by unfold iW;rw[K]
 have q:=O R;clear R;have e8:IntKind.i64.wrap ((n:Int)-2)=(n:Int)-2:=TM _ (by omega);unfold ry
 go_enter func111,ntmps111
 go_upto_region 1 with fail
 refine gI (fun wx=>hU wx w 37 x f v ⟨sa,n,sc⟩ k/\Below w w wx) ⟨b3,b0⟩ ?_;clear b3 b0;rintro w1 ⟨hg,d⟩;have M:=hg.lt;obtain⟨_,_,_,c3,_,_,_,Q,_⟩:=hg.cells;have Hg:=O hg;have t:=O d;clear hg d
 go_upto_region 2 with fail
 cases h1:bt (n:Int) 2 16 with
 |false=>
  have H:=O h1;clear h1
  go_wp2_with((with_reducible refine(ix (n:Int) 2 16 _).mono ?_);rintro e w2 ⟨g,d⟩;rw[H]at g;subst g;have r:=O d;clear d)
  go_ret;exact⟨by rw[q,H];rfl,I t r⟩
 |true=>
  have e6:2<=(n:Int)/\(n:Int)<=16:=by simpa[bt]using h1
  have H:=O h1;clear h1
  cases h2:bt x.stop 0 ((n:Int)-2)with
  |false=>
   have P:=O h2;clear h2
   go_wp2_with(first
    |((with_reducible refine(ix (n:Int) 2 16 _).mono ?_);rintro e w2 ⟨g,d⟩;rw[H]at g;subst g;replace c3:=(d.cell (p:=⟨w.heap.size,3,none⟩) M).trans c3;have r:=O d;clear d)
    |((with_reducible refine(ix x.stop 0 ((n:Int)-2) _).mono ?_);rintro e w3 ⟨g,d⟩;rw[P]at g;subst g;have A:=O d;clear d))
   go_ret;exact⟨by rw[q,H,P];rfl,I t (I r A)⟩
  |true=>
   have c5:0<=x.stop/\x.stop<=(n:Int)-2:=by simpa[bt]using h2
   have P:=O h2;clear h2;obtain⟨m,hm⟩:∃m,n=m+1:=⟨n-1,by omega⟩;obtain⟨j,hj⟩:∃j:Nat,x.stop=(j:Int):=⟨x.stop.toNat,by omega⟩
   have d5:m<n:=by omega
   have d4:j<n:=by omega
   have e7:IntKind.i64.wrap ((n:Int)-1)=(m:Int):=(TM _ (by omega)).trans (by omega);have Hm:=O hm;have Hj:=O hj;have e0:=O c5;clear hm hj c5;have a1:=O (Hf.go iD t);obtain⟨b1,off,y,cs,rfl,hlt,hy,⟨a2,n2,c2,rfl,hz,S,d1,b9⟩,hr⟩:=a1.at d5;obtain⟨e1,d9,z,e3,e',_,c6,⟨a3,n3,e2,rfl,d7,_,_,_⟩,c0⟩:=a1.at d4;cases e'
   have F:pe x.l=pM y.s n2:=by unfold pe;rw[K,show n-1=m by(have:=Hm.out;omega),hy];simp only;rw[<- mU hz]
   have E:kU x.l x.stop=z.s.kind:=by unfold kU;rw[Hj,aI,c6]
   have D:tr y=false->uM x.l=true:=fun e=>yI hy (by rw[e];rfl)
   have C:=O F;have B:=O E;have Hr:=O hr;have Hz:=O (hz.ir (fun _ h=>h));have b5:=O b9;have W:=O D
   have X:w1.cell? ⟨b1,off+j*22,none⟩=some (.int .i64 z.s.kind):=by have:=c0 0 _ rfl;rwa[bE]at this
   have D0:=O X;have C7:=O Q;clear F E hr c0 hz d7 hy c6 d1 b9 D X Q;cases hk3:(z.s.kind==3)
   case true=>
    have hk:kU x.l x.stop=3:=by rw[B];simpa using hk3
    have Hk:=O hk;clear hk
    go_wp2_with(first
     |((with_reducible refine(ix (n:Int) 2 16 _).mono ?_);rintro e w2 ⟨g,d⟩;rw[H]at g;subst g;replace c3:=(d.cell (p:=⟨w.heap.size,3,none⟩) M).trans c3;have r:=O d;clear d)
     |((with_reducible refine(ix x.stop 0 ((n:Int)-2) _).mono ?_);rintro e w3 ⟨g,d⟩;rw[P]at g;subst g;have o:=I r d;have Q:=(o.cell (p:=⟨w.heap.size,7,none⟩) M).trans C7;have X:=(o.cell (p:=⟨b1,off+j*22,none⟩) hlt).trans D0;have c3:=((Hg.go o).cells).2.2.2.1;rw[Hj]at c3;have A:=O o;clear d o))
    go_ret;exact⟨by rw[q,Hk];simp,I t A⟩
   case false=>
    have hk:(kU x.l x.stop !=3)=true:=by rw[B];simpa using hk3
    have Hk:=O hk;clear hk;cases him:(tr y&&pM y.s n2)
    case false=>
     have N:iW x.stop x.l=false:=by
      rw[q,C];cases L:tr y
      .rw[W L];simp
      .rw[L]at him;simp only[Bool.true_and]at him;rw[him];simp
     have a6:=O N;have a5:=O him;clear N him
     go_wp2_with(first
      |((with_reducible refine(ix (n:Int) 2 16 _).mono ?_);rintro e w2 ⟨g,d⟩;rw[H]at g;subst g;replace c3:=(d.cell (p:=⟨w.heap.size,3,none⟩) M).trans c3;have r:=O d;clear d)
      |((with_reducible refine(ix x.stop 0 ((n:Int)-2) _).mono ?_);rintro e w3 ⟨g,d⟩;rw[P]at g;subst g;have o:=I r d;have Q:=(o.cell (p:=⟨w.heap.size,7,none⟩) M).trans C7;have X:=(o.cell (p:=⟨b1,off+j*22,none⟩) hlt).trans D0;have c3:=((Hg.go o).cells).2.2.2.1;rw[Hj]at c3;have A:=O o;clear d)
      |(refine pW (jb Hr (gE o) hlt) (by rfl) (.tmp 34) rfl rfl ?_)
      |((with_reducible refine(zy y a2 n2 c2 _ (Hz.out.go o) S b5.out).mono ?_);rintro e w4 ⟨g,d⟩;rw[a5]at g;subst g;have a0:=O d;clear d))
     go_ret;exact⟨by rw[a6];rfl,I t (I A a0)⟩
    case true=>
     have T:uM x.l=false->iW x.stop x.l=true:=by
      intro d;rw[am]at him;rw[q,C,him.2,d,Hk,H,P];rfl
     have N:uM x.l=true->iW x.stop x.l=false:=by
      intro d;rw[q,d];simp
     have a6:=O N;have a9:=O T;have a5:=O him;clear N T him
     go_wp2_with(first
      |((with_reducible refine(ix (n:Int) 2 16 _).mono ?_);rintro e w2 ⟨g,d⟩;rw[H]at g;subst g;replace c3:=(d.cell (p:=⟨w.heap.size,3,none⟩) M).trans c3;have r:=O d;clear d)
      |((with_reducible refine(ix x.stop 0 ((n:Int)-2) _).mono ?_);rintro e w3 ⟨g,d⟩;rw[P]at g;subst g;have o:=I r d;have Q:=(o.cell (p:=⟨w.heap.size,7,none⟩) M).trans C7;have X:=(o.cell (p:=⟨b1,off+j*22,none⟩) hlt).trans D0;have c3:=((Hg.go o).cells).2.2.2.1;rw[Hj]at c3;have A:=O o;clear d)
      |(refine pW (jb Hr (gE o) hlt) (by rfl) (.tmp 34) rfl rfl ?_)
      |((with_reducible refine(zy y a2 n2 c2 _ (Hz.out.go o) S b5.out).mono ?_);rintro e w4 ⟨g,d⟩;rw[a5]at g;subst g;have a0:=O (I o d);clear d))
     clear c3 Q X o
     go_loopw [4] (fun iv wr=>∃i:Nat,i<=n/\iv=.int .i64 (i:Int)/\(x.l.take i).any (fun x=>!tr x)=false/\Below w1 w1 wr) (fun iv _=>n-(intOf iv).toNat)
     case atStart=>exact⟨0,by omega,rfl,rfl,a0⟩
     case round=>
      obtain⟨i,hi,rfl,L,d⟩:=hrel;have Ho:=O L;have r:=O d;clear L d;obtain⟨_,_,_,_,_,_,_,Q,_⟩:=(Hg.go r).cells;have hgl:w.heap.size<wr.heap.size:=ab M r.size
      by_cases d3:i<n
      .obtain⟨b4,o4,u,e5,e4,d8,hu,⟨a4,n4,c4,rfl,a8,d6,-,d2⟩,c1⟩:=(a1.go iD r).at d3
       cases e4
       have a7:tr u=oA u.s u.zs n4:=by unfold tr;rw[<- mU a8]
       have c9:=O (a8.ir (fun _ h=>h));have c8:=O c1;clear a8 c1;cases L:oA u.s u.zs n4
       all_goals
        have HO:=O L;rw[L]at a7;have b6:=O a7;have Hu:=O hu;clear L a7 hu
        go_wp2_with(first
         |(refine lw c8 rfl (.tmp 47) rfl rfl ?_)
         |((with_reducible refine(lN u.s u.zs a4 n4 c4 _ c9.out d6 d2).mono ?_);rintro e w5 ⟨g,d⟩;rw[HO]at g;subst g;have b2:=O d;clear d))
       .go_ret
        refine⟨?_,I t (I r b2)⟩;rw[a6 (yI Hu (by rw[b6];rfl))];rfl
       .go_roundw
        case rel=>exact⟨i+1,by omega,by go_num,(wV Hu Ho).trans (by rw[b6];rfl),I r b2⟩
        case measure=>simp[intOf];omega
      .obtain rfl:i=n:=by omega
       go_wp2;go_ret;refine⟨?_,I t r⟩;have:=Ho.out;rw[<- K,bf]at this;rw[a9 this];rfl
end Go.Proofs.YtgohdcccfkjooaaGreatDoor
