import Derived.Test.YtlnbjinneegciabGreatDoorTAL
namespace Go.Proofs.YtlnbjinneegciabGreatDoor
set_option linter.all false
set_option maxRecDepth 100000
set_option maxHeartbeats 6400000
open Go.Proofs.Tryz Go.RowKit
def JC(zs:List Int)(p q:Int)(j:Nat):Bool:=decide (zs.getD (j*2) 0=p/\zs.getD (j*2+1) 0=q)
def Nq{zs:List Int}{m:Nat}{a p q:Int}(l:zs.length=m*2)(h:(List.range m).all (iV a zs)=true)(t: -a<=p/\p<=a)(u: -a<=q/\q<=a)(o:(List.range m).any (JC zs p q)=false):(List.range (m+1)).all (iV a (zs++[p,q]))=true:=by
 rw[an];intro j c;have c:=aJ.1 c
 have k:∀i j,i<m->j<m->mV (zs++[p,q]) i j=mV zs i j:=by
  intro i j hi c;unfold mV;rw[kB (by omega),kB (by omega),kB (by omega),kB (by omega)]
 by_cases e:j<m
 .have:=an.1 h j (aJ.2 e)
  unfold iV tc at*;rw[kB (by omega),kB (by omega)]
  rw[show(List.range j).any (mV (zs++[p,q]) j)=(List.range j).any (mV zs j)from by
   rw[bJ,cw,cw];constructor
   .rintro⟨i,hi,b⟩;have:=aJ.1 hi;exact⟨i,hi,by rw[<- k j i e (by omega)];exact b⟩
   .rintro⟨i,hi,b⟩;have:=aJ.1 hi;exact⟨i,hi,by rw[k j i e (by omega)];exact b⟩]
  exact this
 .obtain rfl:j=m:=by omega
  have e0:=mb (ys:=[p,q]) (j:=0) l;have d:=mb (ys:=[p,q]) (j:=1) l;rw[bE]at e0;unfold iV tc;rw[e0,d]
  have f:bt ([p,q].getD 0 0) (-a) a=true:=by unfold bt;simp;omega
  have g:bt ([p,q].getD 1 0) (-a) a=true:=by unfold bt;simp;omega
  rw[f,g]
  have:(List.range j).any (mV (zs++[p,q]) j)=false:=by
   rw[dw];intro n;obtain⟨i,hi,b⟩:=cw.1 n;have s:=aJ.1 hi;have r:=du.1 o i hi;apply r;unfold mV at b;rw[e0,d,kB (by omega),kB (by omega)]at b;simp only[aD,fd,eA]at b;unfold JC;simp only[aD];exact⟨b.1.symm,b.2.symm⟩
  rw[this];rfl
def Rr(far:Int)(w:World)(e:Ending)(w':World):Prop:=
 ∃a n c zs,e=.returned (.slice a n c)/\IRp (fun b=>w.heap.size<=b/\b<w'.heap.size) w' 2 a n c zs/\(a=none->c=0)/\1<=n/\n<=5/\(List.range n).all (iV (jj far) zs)=true/\Below w w w'
def E9{f:Nat->Bool}{j:Nat}{b:Bool}(h:(List.range j).any f=b)(hb:b=true\/f j=false):(List.range (j+1)).any f=b:=by
 rw[bV,eo,h]
 obtain rfl|hb:=hb
 .rfl
 .simp[hb]
def Fa(x:rz)(s f v k:iJ)(w:World)(hf:BR (fun b=>b<w.heap.size) w f.a f.n f.c x.fields)(R:Ci x.far):
 Calls prog 29 #[EW x s f v k] w (Rr (uP x) w):=by
 obtain⟨fa,n,fc⟩:=f;have Hf:=O hf;have C:=O R;clear hf R;have b5:=O (oU.new w x s ⟨fa,n,fc⟩ v k);have a9:=O ((TH w w).alloc (ag _) (.cells (lI x s ⟨fa,n,fc⟩ v k).toArray 28));go_enter func29,ntmps29;go_upto_region 1 with fail;refine gI (fun F=>oU F w x s ⟨fa,n,fc⟩ v k/\Below w w F/\F.heap.size=w.heap.size+1) ⟨b5,a9,by simp⟩ ?_;clear b5 a9;rintro w1 ⟨M,hb,hz⟩;have c2:=World.ownsRow_lit (base:=w.heap.size+1) (size:=2) (e:=77) w1 #[oZ,oZ] 1 (by omega) (by unfold maxLen;omega) rfl;have hl:=M.lt;have Hg:=O (M.go ((TH _ _).alloc (ag _) (.cells #[oZ,oZ] 77)));have b0:=O (hb.alloc hb.size (.cells #[oZ,oZ] 77));have b8:=O c2;clear M hb hz c2;go_wp2
 go_loopw [3,4] (fun tv iv wr=>∃(i m:Nat)(zs:List Int),i<=4/\1<=m/\m<=i+1/\iv=.int .i64 (i:Int)/\wr.ownsRow (w+1) 77 2 tv m (zs.map (Value.int .i64))/\(List.range m).all (iV (jj (uP x)) zs)=true/\oU wr w x s ⟨fa,n,fc⟩ v k/\Below w w wr) (fun _ iv _=>5-(intOf iv).toNat)
 case atStart=>
  refine⟨0,1,[0,0],by omega,by omega,by omega,rfl,b8,?_,Hg,b0⟩;have hm:=yJ C;unfold jj;split<;>decide
 case round=>
  clear Hg b0 hl b8;obtain⟨i,m,zs,hi,d6,d7,rfl,ho,hz,M,hb⟩:=hrel;obtain⟨-,-,-,-,c4,-,-,-,-⟩:=M.cells;have hl:=M.lt;have E:=ho.1;rw[aU]at E;obtain⟨oa,oc,rfl⟩:=kx ho;have Ho:=O ho;have Hz:=O hz;have Hg:=O M;have Hb:=O hb;have a6:=O E;clear ho hz M hb E;by_cases S:i<n/\i<4
  .obtain⟨S,d5⟩:=S
   obtain⟨b1,off,D,hlt,x0,d0,d1⟩:=(Hf.kept (gE Hb) (fun b h=>h)).2.2 i S
   try simp only at D
   subst D;generalize x.fields.getD i 0=z at*;have d2:b1<wr.heap.size:=eb hlt Hb.size
   have c3:0<=z/16:=by omega
   have c5:z/16<=15:=by omega
   have a4:0<=z%16:=by omega
   have a5:z%16<=15:=by omega
   have q1:IntKind.i64.wrap z=z:=TM _ (by omega);obtain⟨o,rfl⟩:∃o:World,o=wr:=⟨_,rfl⟩;have Q:=O (TL o (.cells #[.int .i64 (10000*(z/16)),.int .i64 (10000*(z%16))] 77));have b4:=O ((TH o o).alloc (ag _) (.cells #[.int .i64 (10000*(z/16)),.int .i64 (10000*(z%16))] 77));go_upto_region 7 with fail;refine gI (fun F=>F.heap[o.heap.size]? =some (.cells #[.int .i64 (10000*(z/16)),.int .i64 (10000*(z%16))] 77 (0,0))/\Below o o F) ⟨Q,b4⟩ ?_;clear Q b4 x0 c4;rintro w2 ⟨h2,K⟩;have A:=TK h2;have N:=O h2;have u:=O K;clear h2 K
   go_upto_if 37 with(first
    |(refine sK (Hg.go u).range rfl (.tmp 1) rfl rfl ?_)
    |(go_at_call 28;refine(JB x s _ v k _ C).mono ?_;rintro e w3 ⟨rfl,t⟩;have r:=O t;clear t))
   have c6:=yJ C;have c8:=(VV ((r.block _ A).trans N) 0).trans rfl;have c9:=(VV ((r.block _ A).trans N) 1).trans rfl;have L:=O ((r.block _ A).trans N)
   have a7:w3.frozen? (J (o.heap.size))=false:=by rw[World.frozen?,L];rfl
   have a8:w3.frozen? ⟨o.heap.size,1,none⟩=false:=by rw[World.frozen?,L];rfl
   have a0:=O (I u r);clear N u r
   go_cut [] (fun F=>∃p q:Int,(-jj (uP x)<=p/\p<=jj (uP x))/\(-jj (uP x)<=q/\q<=jj (uP x))/\F.heap[o.heap.size]? =some (.cells #[p,q] 77 (0,0))/\Below o o F)
   case first=>
    by_cases d3:0<uP x
    .have l:jj (uP x)=1000000000:=by unfold jj;rw[aj (by omega)]
     have g:=O l;clear l;go_wp2;go_meet;refine⟨500000*(z/16),-500000*(z%16),?_,?_,?_,?_⟩
     .rw[g];omega
     .rw[g];omega
     .have:=gG (gG L 0 (.int .i64 (500000*(z/16)))) 1 (.int .i64 (-500000*(z%16)))
      simpa using this
     .exact(a0.setCell (p:=J (o.heap.size)) (ag _) _).setCell (p:=⟨o.heap.size,1,none⟩) (ag _) _
    .have l:jj (uP x)=1000000:=by unfold jj;rw[aq (by omega)]
     have g:=O l;clear l;go_wp2;go_meet;exact⟨10000*(z/16),10000*(z%16),by rw[g];omega,by rw[g];omega,L,a0⟩
   case rest=>
    obtain⟨p,q,hp,hq,h2,K⟩:=hcut;have Hp:=O hp;have Hq:=O hq;have N:=O h2;have u:=O K;clear hp hq h2 K c8 c9 L a7 a8 a0 c6 c3 c5 a4 a5 q1 d0 d1;have A:=TK N;go_wp2
    go_loopw [7,8] (fun kv jv wr=>∃(j:Nat)(b:Bool),j<=m/\jv=.int .i64 (j:Int)/\kv=.bool b/\(List.range j).any (JC zs p q)=b/\Below wc wc wr) (fun _ jv _=>m-(intOf jv).toNat)
    case atStart=>exact⟨0,false,by omega,rfl,rfl,rfl,TH _ _⟩
    case round=>
     obtain⟨j,b,hj,rfl,rfl,c1,t⟩:=hrel;have a2:=I u t;have d4:o.heap.size<wr.heap.size:=eb A t.size;have h2:=(t.block _ A).trans N;have y0:=(VV h2 0).trans rfl;have y1:=(VV h2 1).trans rfl;have H:=O (kD Ho a2);have b6:=O (Hg.go a2);have b2:=O (I Hb a2);have a1:=O c1;have r:=O t;clear c1 t h2;by_cases c7:j<m
     .obtain⟨a',c',D,-,c0⟩:=lc H
      cases D;obtain⟨b3,o3,rfl,l3,x0,x1⟩:=(c0.ir (fun _ h=>h.2)).at2 c7
      have T:∀P X,zs.getD (j*2) 0=P->zs.getD (j*2+1) 0=X->JC zs p q j=decide (P=p/\X=q):=by rintro _ _ rfl rfl;rfl
      generalize a4:zs.getD (j*2) 0=P at*;generalize a5:zs.getD (j*2+1) 0=X at*;have T:=T P X rfl rfl;have b7:=O T;clear T a4 a5 c0;cases b
      .by_cases hd:P=p/\X=q
       .obtain⟨rfl,rfl⟩:=hd
        go_wp2_with fail
        go_quiet (fail)
        go_wp2
        go_roundw
        case rel=>exact⟨j+1,true,by omega,by go_num,by simp,by rw[bV,eo];simp[b7.out],gV r _⟩
        case measure=>simp[intOf];omega
       .have a3:((P==p)=false)\/(P=p/\(X==q)=false):=by simp only[ak];omega
        have Hd:=O hd;clear hd
        obtain a3|⟨rfl,a3⟩:=a3
        all_goals
         go_wp2_with fail
         go_quiet (fail)
         go_wp2
         go_roundw
         case rel=>exact⟨j+1,false,by omega,by go_num,by simp,E9 a1 (VS (b7.trans (by simpa using Hd.out))),gV r _⟩
         case measure=>simp[intOf];omega
      .go_wp2_with fail
       go_quiet (fail)
       go_wp2
       go_roundw
       case rel=>exact⟨j+1,true,by omega,by go_num,by simp,E9 a1 (VR rfl),gV r _⟩
       case measure=>simp[intOf];omega
     .obtain rfl:m=j:=by omega
      cases b
      .have b9:w.heap.size+1<=wr.heap.size:=by have:=Hb.size;have:=u.size;omega
       go_wp2_with(refine je underlying32 Tryz.infoField2 rfl (by omega) (by omega) rfl (.tmp 62) (.tmp 64) rfl (w+1) _ m zs rfl (H.alloc _) (fun _=>True) _ 1 1 [p,q] rfl (uC rfl rfl rfl) (fun e=>by cases e) (by omega) (by simp;omega) ?_;intro v' w4 B d;have W:=O B;have y:=O d;clear B d)
       have d:=y.out;have D:=(jI (base:=w.heap.size+1) H d (b:=w.heap.size) (by omega) b9).trans b6;have E3:=O (jF b2 H d (by omega) b9);have E1:=O D;clear D d y y0 y1
       go_roundw
       case rel=>exact⟨i+1,m+1,_,by omega,by omega,by omega,by go_num,W,Nq a6 Hz Hp Hq a1,E1,E3⟩
       case measure=>simp[intOf];omega
      .go_wp2
       go_roundw
       case rel=>exact⟨i+1,m,zs,by omega,by omega,by omega,by go_num,H,Hz,b6,b2⟩
       case measure=>simp[intOf];omega
  .have hx:¬i<n\/(i<n/\ ¬i<4):=by omega
   clear S
   obtain hx|⟨hx,hx4⟩:=hx
   all_goals
    go_wp2;go_ret;obtain⟨a',c',D,h1,h2⟩:=lc Ho;cases D;exact⟨oa,m,oc,zs,rfl,h2.kept (gN.refl _ _) (fun b h=>⟨by omega,h.2⟩),h1,by omega,by omega,Hz,Hb⟩
