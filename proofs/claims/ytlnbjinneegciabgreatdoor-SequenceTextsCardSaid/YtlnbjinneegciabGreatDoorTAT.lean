import Derived.Test.YtlnbjinneegciabGreatDoorTAN
import Derived.Test.YtlnbjinneegciabGreatDoorTAI
import Derived.Test.YtlnbjinneegciabGreatDoorTAP
namespace Go.Proofs.YtlnbjinneegciabGreatDoor
set_option linter.all false
set_option maxRecDepth 100000
set_option maxHeartbeats 6400000
open Go.Proofs.Tryz Go.RowKit
def Rs(l:List gM)(w:World)(e:Ending)(w':World):Prop:=
 ∃a n c cf,e=.returned (.slice a n c)/\RR oB 2 (fun b=>w.heap.size<=b/\b<w'.heap.size) w' a n c cf/\n<=2/\jo l cf=true/\Below w w w'
def Cl:ByteArray:=⟨#[110,101,97,114]⟩
def Cm:ByteArray:=⟨#[102,97,114]⟩
def PL{S:Nat->Prop}{w:World}{T:TypeId}{cs:Array Value}{ys:List Int}{k b:Nat}(c:w.heap[b]? =some (.cells cs T (0,0)))(hb:S b)(d:ys.length=1*k)(h:cs=(ys.map (Value.int .i64)).toArray):IRp S w k (J b) 1 1 ys:=by
 subst h;refine⟨d,ag _,fun _=>⟨_,0,rfl,hb,fun j e=>?_⟩⟩
 have a:j<ys.length:=by omega
 rw[aV,VV c j];simp[ah,a]
def rQ{B:Nat}{w:World}{o:Obj}(h:B<=w.heap.size):Below B w (w.alloc o):=(TH _ _).alloc h _
def xl(l:List gM)(zs:List Int)(a b:Option Addr)(m d n c:Nat)(w:World)(h:RR jE 22 (fun b=>b<w.heap.size) w a m d l)(j:m<=1000000)(i:IR w w 3 b n c zs)(k:n<=1000000):
 Calls prog 50 #[Z a m d,Z b n c] w (fun e w'=>∃(v:Value)(r:Bool),e=.returned (.tuple #[v,r])/\(r=true->lr l ⟨ik,zs⟩=true)/\Below w w w'):=by
 have g:n=zs.length/3:=by rw[i.1];omega
 refine(wW l zs a b m d n c w h j i k).mono ?_;rintro e w' (⟨_,rfl,hb⟩|⟨l',v,f,rfl,_,hb⟩)
 .exact⟨_,_,rfl,(fun h=>by cases h),hb⟩
 .exact⟨_,_,rfl,(fun h=>by unfold lr;simp only;rw[<- g,f];exact h),hb⟩
def xm{ops:Array Oper}{c:List Oper}{o:Oper}{a:Act}{Q:Exit->Act->World->Prop}{w:World}{B e0:Nat}(g:o.guard=none)(s x:Operand)(j:o.op=.call {callee:=.builtin .append,args:=#[s,x],argTypes:=#[65,65]})
 (hs:a.eval s=.slice (J e0) 0 0)(he:w.heap[e0]? =some (.cells #[] 64 (0,0)))(hB:B<=e0){S:Nat->Prop}{ca:Option Addr}{cn cc:Nat}{zs:List Int}(hx:a.eval x=.slice ca cn cc)(hir:IRp S w 3 ca cn cc zs)(hcc:ca=none->cc=0)(hcn:cn<=4)
 (h:∀f w',w'.ownsRow B 64 3 f cn (zs.map (Value.int .i64))->Below B w w'->gN (fun b=>b<w.heap.size/\b≠e0) w w'->wpList prog ops Q c (a.put o.dst f) w'):wpList prog ops Q (o::c) a w:=by
 have hlt:=TK he;have d:w.ownsRow B 64 3 (.slice (J e0) 0 0) 0 (([]:List Int).map (Value.int .i64)):=⟨by simp,.inr ⟨e0,0,#[],rfl,hB,he,ag _,by unfold maxLen;omega,rfl,by simp⟩⟩;refine je underlying65 Tryz.infoChange3 rfl (by omega) (by omega) g s x j B _ 0 [] hs d S ca cn cc zs hx hir hcc (by omega) (by omega) ?_;intro f w' h1 h2;rw[aV]at h1;exact h f w' h1 ((TH B w).grown h2 (by omega) (fun k i=>by simp[Value.ownBlock]at i;omega)) ((nW h2).mono (fun b hb=>⟨hb.1,by simp[Value.ownBlock];exact fun e=>hb.2 e.symm⟩))
def Dn{ops:Array Oper}{b:List Oper}{o:Oper}{a:Act}{Q:Exit->Act->World->Prop}{w:World}{B g:Nat}(d:o.guard=none)(s x:Operand)(i:o.op=.call {callee:=.builtin .append,args:=#[s,x],argTypes:=#[65,65]})
 {v:Value}{cn:Nat}{zs:List Int}(hs:a.eval s=v)(hown:w.ownsRow B 64 3 v cn (zs.map (Value.int .i64)))(hx:a.eval x=.slice (J g) 1 1){q0 q1 q2:Int}(hg:w.heap[g]? =some (.cells #[q0,q1,q2] 64 (0,0)))(hcn:cn<=4)(hB:B<=w.heap.size)
 (h:∀c w',w'.ownsRow B 64 3 c (cn+1) ((zs++[q0,q1,q2]).map (Value.int .i64))->Below B w w'->wpList prog ops Q b (a.put o.dst c) w'):wpList prog ops Q (o::b) a w:=by
 refine je underlying65 Tryz.infoChange3 rfl (by omega) (by omega) d s x i B v cn zs hs hown (fun _=>True) _ 1 1 [q0,q1,q2] hx (PL hg trivial rfl rfl) (fun e=>by cases e) (by omega) hB ?_;intro c w' h1 h2;exact h c w' h1 ((TH B w).grown h2 hB (fun k f=>(hown.lt k f).1))
def Zp(x:rz)(s f v k:iJ)(l:List gM)(sa:Option Addr)(m sc:Nat)(w:World)(hk:RR JA 1 (fun b=>b<w.heap.size) w k.a k.n k.c x.puts)(hs:RR jE 22 (fun b=>b<w.heap.size) w sa m sc l)(hm:1<=m)(e4:m<=1000000):
 Calls prog 30 #[EW x s f v k,Z sa m sc] w (Rs l w):=by
 obtain⟨ka,n,kc⟩:=k;have Hk:=O hk;have Hs:=O hs;clear hk hs
 have i6:((m:Int)==0)=false:=by simp;omega
 have f3:=O (oU.new w x s f v ⟨ka,n,kc⟩);have e9:=O ((TH w w).alloc (ag _) (.cells (lI x s f v ⟨ka,n,kc⟩).toArray 28));go_enter func30,ntmps30;go_upto_region 1 with fail;refine gI (fun wx=>oU wx w x s f v ⟨ka,n,kc⟩/\Below w w wx) ⟨f3,e9⟩ ?_;clear f3 e9;rintro w1 ⟨hg,hb⟩;have hl:=hg.lt;have Hg:=O hg;have f0:=O hb;clear hg hb;go_wp2
 go_loopw [5,6] (fun ov iv wr=>∃(i:Nat)(cf:List jd),i<=2/\cf.length=i/\iv=.int .i64 (i:Int)/\jD oB 2 67 (w+1) wr ov cf/\(cf.all (lr l)=true/\cf.map jd.nm=[Cl,Cm].take i)/\oU wr w x s f v ⟨ka,n,kc⟩/\Below w w wr) (fun _ iv _=>2-(intOf iv).toNat)
 case atStart=>exact⟨0,[],by omega,rfl,rfl,jD.nil _ _ _ _ _,⟨rfl,rfl⟩,Hg,f0⟩
 case round=>
  clear Hg f0 hl;obtain⟨i,cf,hi,f7,rfl,ho,b9,hg,hb⟩:=hrel;have a4:=O b9;clear b9;obtain⟨-,-,-,-,-,-,-,-,c8⟩:=hg.cells;have hl:=hg.lt;have Ho:=O ho;have Hg:=O hg;have Hb:=O hb;have c2:=O f7;clear ho hg hb f7;by_cases d2:i<n/\i<2
  .obtain⟨d2,i3⟩:=d2
   obtain⟨D,rfl⟩:∃D:World,D=wr:=⟨_,rfl⟩;obtain⟨bk,ko,ps,i8,e1,h4,-,⟨pa,pn,pc,rfl,g6⟩,g5⟩:=(Hk.kept Id (gE Hb) (fun b h=>h)).at d2
   try simp only at e1
   subst e1;have p0:=g5 0 _ rfl;rw[bE,dn]at p0;have P0:=O p0;have h2:=O g6;have d4:bk<D.heap.size:=eb h4 Hb.size;clear p0 g6 g5;go_upto_region 5 with fail
   go_cut [7] (fun v7 wx=>v7=.pointer (J (D+1))/\ ∃nm:ByteArray,nm.size<=9223372036854775807/\[Cl,Cm][i]? =some nm/\wx.heap[D.heap.size+1]? =some (.cells #[nm,oN] 67 (0,0))/\Below D D wx)
   case first=>
    have e8:i=0\/i=1:=by omega
    obtain rfl|rfl:=e8
    .go_wp2
     go_meet;refine⟨rfl,Cl,by decide,rfl,?_,gY (gY (TH _ _))⟩;have h:=TL (D.alloc (.cells #[Cl,Cm] 9)) (.cells #[Cl,oN] 67);rw[Wf]at h;exact h
    .go_wp2
     go_meet;refine⟨rfl,Cm,by decide,rfl,?_,gY (gY (TH _ _))⟩;have h:=TL (D.alloc (.cells #[Cl,Cm] 9)) (.cells #[Cm,oN] 67);rw[Wf]at h;exact h
   case rest=>
    obtain⟨rfl,nm,g2,d5,h7,A⟩:=hcut;have e7:=O d5;clear d5;have d9:=TK h7;have H7:=O h7;have a6:=O A;have h0:=O g2;clear h7 A g2 c8;go_wp2
    go_loopw [8] (fun jv wr=>∃(j:Nat)(ca:Option Addr)(cn cc:Nat)(zs:List Int),j<=4/\cn<=j/\jv=.int .i64 (j:Int)/\wr.heap[D.heap.size+1]? =some (.cells #[nm,Z ca cn cc] 67 (0,0))/\IRp (fun b=>D.heap.size+1<b/\b<wr.heap.size) wr 3 ca cn cc zs/\(ca=none->cc=0)/\lr l ⟨ik,zs⟩=true/\Below D D wr) (fun jv _=>4-(intOf jv).toNat)
    case atStart=>exact⟨0,none,0,0,[],by omega,by omega,rfl,H7,IRp.nil _ _ _ _ _,fun _=>rfl,rfl,a6⟩
    case round=>
     clear H7 a6 d9;obtain⟨j,ca,cn,cc,zs,hj,i2,rfl,h7,g1,f6,g0,A⟩:=hrel;have c6:=O g0;clear g0;have d9:=TK h7;have c8:=((Hg.go A).cells).2.2.2.2.2.2.2.2;have p0:=(A.cell (p:=⟨bk,ko+i,none⟩) d4).trans P0;have i5:w.heap.size<wr.heap.size:=eb hl A.size;have h8:bk<wr.heap.size:=eb d4 A.size;have i1:=A.size;have d0:=(VV h7 0).trans rfl;have d1:=(VV h7 1).trans rfl;have H7:=O h7;have c7:=O g1;have c1:=O f6;have a6:=O A;clear h7 g1 f6 A;by_cases d3:j<pn/\j<4
     .obtain⟨d3,i4⟩:=d3
      obtain⟨bp,po,q,i9,e1,h5,-,⟨rfl,g7,e5,g8⟩,d6⟩:=(h2.kept QA ((gE a6).mono (fun b h=>eb h Hb.size)) (fun b h=>h)).at d3;subst e1;have x0:=d6 0 _ rfl;have x1:=d6 1 _ rfl;have x2:=d6 2 _ rfl;rw[bE]at x0;have i0:bp<wr.heap.size:=eb h5 (by have:=Hb.size;omega);obtain⟨X,S,T⟩:=q;unfold og at g7 e5;unfold qD at g8;simp only at x0 x1 x2 g7 e5 g8;clear d6;obtain⟨wq,rfl⟩:∃wq:World,wq=wr:=⟨_,rfl⟩;have c9:=O (TL wq (.cells #[.int .u8 X,.int .u8 S,.int .i16 T] 140));have f2:=O ((TH wq wq).alloc (ag _) (.cells #[.int .u8 X,.int .u8 S,.int .i16 T] 140));go_upto_region 10 with fail;refine gI (fun wx=>wx.heap[wq.heap.size]? =some (.cells #[.int .u8 X,.int .u8 S,.int .i16 T] 140 (0,0))/\Below wq wq wx) ⟨c9,f2⟩ ?_;clear c9 f2 x0 x1 x2 c8 p0 d0 d1;rintro C ⟨h9,b8⟩;have e3:=TK h9;have x0:=(VV h9 0).trans rfl;have x1:=(VV h9 1).trans rfl;have x2:=(VV h9 2).trans rfl;have h7:=(b8.block _ d9).trans H7;have d1:=(VV h7 1).trans rfl;have b4:=TK h7;have a5:=O (c7.kept ((gE b8).mono (fun b h=>h.2)) (fun b h=>(⟨h.1,eb h.2 b8.size⟩:D.heap.size+1<b/\b<C.heap.size)));have b6:=O h7;have b7:=O b8;have H:=O ((a6).trans (b8.mono a6.size));have c0:=c7;clear h9 h7 b8 H7 c7
      have i7:¬m=0:=by omega
      have u0:IntKind.i64.wrap X=X:=TM _ (by omega);have u1:IntKind.i64.wrap S=S:=TM _ (by omega);have u2:IntKind.i64.wrap (1+S.tmod 17)=1+S.tmod 17:=TM _ (by have:=sJ e5.1 17 (by omega);omega);have u3:IntKind.i64.wrap T=T:=TM _ (by omega);have u4:IntKind.i64.wrap (1000*T)=1000*T:=TM _ (by omega);refine jw (C.heap.size) [1,2,4,5,6,7,8,9,10,11,12,13,14,15,16,17,18,19] 5 (by kernel_rfl) rfl (by kernel_rfl) (by kernel_rfl) (fun _ _ o _ _ h=>by cases o<;>exact h) ?_
      iterate 18
       refine jW (v:=?_) rfl (by rfl) ?_ ?_;rotate_left
       .intro y hy
        have z0:=(hy.cell (p:=J (wq.heap.size)) e3).trans x0;have z1:=(hy.cell (p:=⟨wq.heap.size,1,none⟩) e3).trans x1;have z2:=(hy.cell (p:=⟨wq.heap.size,2,none⟩) e3).trans x2;have z3:=(hy.cell (p:=⟨D.heap.size+1,1,none⟩) b4).trans d1;go_simp;with_reducible rfl
       try simp only[V]
      refine mB ?_;clear x0 x1 x2 d1;have d8:=O c1.out;refine Fb (i:=0) (j:=20) (by kernel_rfl) rfl rfl rfl rfl (fun K r=>?_) (fun K r=>?_)
      .refine qG rfl (.slice (J (C.drew.heap.size)) 0 0) (.cells #[] 64) (by go_simp) ?_
       refine r _ _ (rQ (w:=C.drew) (ag C)) ?_;clear r K;(try simp only[V]);have he:=TL C.drew (.cells #[] 64);have a3:Below C C (C.drew.alloc (.cells #[] 64)):=gY (jA (TH _ _))
       have d7:(C.drew.alloc (.cells #[] 64)).heap.size=C.heap.size+1:=by simp
       generalize C.drew.alloc (.cells #[] 64)=wE at*;refine Fb (i:=3) (j:=20) (by kernel_rfl) rfl rfl rfl rfl (fun K r=>?_) (fun K r=>?_)
       .refine xm rfl (.tmp 51) (.tmp 53) rfl (e0:=C.heap.size) rfl he (ag _) rfl (a5.kept (gE a3|>.mono (fun b h=>h.2)) (fun b h=>h)) d8 (by omega) ?_
        intro v5 w5 Q a1 b5;refine r _ _ a1 ?_;clear r K;(try simp only[V]);have t:=a3.trans a1;refine mm (i:=20) (fun K r=>?_);refine qG rfl (.slice (J (w5.heap.size)) 1 1) (.cells #[.int .i64 (X.tmod m),.int .i64 (1+S.tmod 17),.int .i64 (1000*T)] 64) (by go_simp) ?_;refine r _ _ (rQ (w:=w5) t.size) ?_;clear r K;(try simp only[V]);have hg:=TL w5 (.cells #[.int .i64 (X.tmod m),.int .i64 (1+S.tmod 17),.int .i64 (1000*T)] 64);have W:=t.alloc t.size (.cells #[.int .i64 (X.tmod m),.int .i64 (1+S.tmod 17),.int .i64 (1000*T)] 64);refine mm (i:=21) (fun K r=>?_);refine Dn rfl (.tmp 54) (.tmp 71) rfl rfl (Q.alloc _) rfl hg (by omega) W.size ?_;intro v6 w6 z a2;refine r _ _ a2 ?_;clear r K;(try simp only[V]);have u:=O z;have E:=O (W.trans a2);clear Q a1 b5 t hg W z a2 he a3 d7;refine ia (i:=22) (fun K r=>?_);go_simp;refine r _ _ (TH _ _) ?_;clear r K;refine lH (by kernel_rfl) ?_;obtain⟨b1,b2,rfl,N,P⟩:=lc u;have a7:=O N;have L:=O P;clear N P u;have a0:=(E.block _ b4).trans b6;have a8:=TK a0;have a9:=O a0;have B:=O (H.trans (E.mono H.size));have c5:=O B.size;have F:=O b7.size;clear a0 b6 a5 H
        go_upto_if 79 with((with_reducible refine(xl l _ sa b1 m sc (cn+1) b2 _ (Hs.out.go iD (I Hb.out B.out)) e4 (L.out.ir (fun _ h=>h.2)) (by omega)).mono ?_);rintro e w7 ⟨v7,r7,rfl,b3,A⟩;have d:=O A;have c3:=O b3;clear A b3)
        have M:=(d.block _ a8).trans a9;have g9:=(VV M 1).trans rfl
        have f4:w7.frozen? ⟨D.heap.size+1,1,none⟩=false:=by rw[World.frozen?,M];rfl
        have b0:=O M;clear M a9;have R:=O (B.trans (d.mono c5));cases r7
        .go_wp2
         go_roundw
         case rel=>exact⟨j+1,ca,cn,cc,zs,by omega,by omega,by go_num,b0,c0.kept ((gE (b7.trans (E.mono F)|>.trans (d.mono (af F E.size)))).mono (fun b h=>h.2)) (fun b h=>⟨h.1,eb h.2 (af F (af E.size d.size))⟩),c1,c6,R⟩
         case measure=>simp[intOf];omega
        .go_wp2
         go_roundw
         case rel=>exact⟨j+1,b1,cn+1,b2,_,by omega,by omega,by go_num,gG b0 1 _,L.kept (((gE d).mono (fun b h=>h.2)).trans ((gK (D+1) [_] 1 w7).mono (fun b h=>by have:=F.out;have:=h.1;omega))) (fun b h=>⟨by have:=F.out;have:=h.1;omega,by(show b<((w7.setCell ⟨D.heap.size+1,1,none⟩ _).heap.size));simp;exact eb h.2 d.size⟩),a7,c3 rfl,R.setCell (p:=⟨D.heap.size+1,1,none⟩) (bY _) _⟩
         case measure=>simp[intOf];omega
       .refine qG rfl (.slice (J (wE.heap.size)) 1 1) (.cells #[.int .i64 (X.tmod m),.int .i64 (1+S.tmod 17),.int .i64 (1000*T)] 64) (by go_simp) ?_
        refine r _ _ (rQ (w:=wE) a3.size) ?_;clear r K;(try simp only[V]);have hg:=TL wE (.cells #[.int .i64 (X.tmod m),.int .i64 (1+S.tmod 17),.int .i64 (1000*T)] 64);have W:=a3.alloc a3.size (.cells #[.int .i64 (X.tmod m),.int .i64 (1+S.tmod 17),.int .i64 (1000*T)] 64);have f8:=(TJ wE (.cells #[.int .i64 (X.tmod m),.int .i64 (1+S.tmod 17),.int .i64 (1000*T)] 64) _ (TK he)).trans he
        have e6:(wE.alloc (.cells #[.int .i64 (X.tmod m),.int .i64 (1+S.tmod 17),.int .i64 (1000*T)] 64)).heap.size=wE.heap.size+1:=by simp
        generalize wE.alloc (.cells #[.int .i64 (X.tmod m),.int .i64 (1+S.tmod 17),.int .i64 (1000*T)] 64)=wG at*;refine mm (i:=3) (fun K r=>?_);refine xm rfl (.tmp 51) (.tmp 53) rfl (e0:=C.heap.size) rfl f8 (ag _) rfl (a5.kept (gE W|>.mono (fun b h=>h.2)) (fun b h=>h)) d8 (by omega) ?_;intro v5 w5 Q a1 b5;refine r _ _ a1 ?_;clear r K;(try simp only[V]);have t:=W.trans a1;have c4:=(b5 wE ⟨by omega,by omega⟩).trans hg;refine mm (i:=21) (fun K r=>?_);refine Dn rfl (.tmp 54) (.tmp 71) rfl rfl Q rfl c4 (by omega) t.size ?_;intro v6 w6 z a2;refine r _ _ a2 ?_;clear r K;(try simp only[V]);have u:=O z;have E:=O (t.trans a2);clear Q a1 b5 t hg W z a2 he a3 d7 e6 f8 c4;refine ia (i:=22) (fun K r=>?_);go_simp;refine r _ _ (TH _ _) ?_;clear r K;refine lH (by kernel_rfl) ?_;obtain⟨b1,b2,rfl,N,P⟩:=lc u;have a7:=O N;have L:=O P;clear N P u;have a0:=(E.block _ b4).trans b6;have a8:=TK a0;have a9:=O a0;have B:=O (H.trans (E.mono H.size));have c5:=O B.size;have F:=O b7.size;clear a0 b6 a5 H
        go_upto_if 79 with((with_reducible refine(xl l _ sa b1 m sc (cn+1) b2 _ (Hs.out.go iD (I Hb.out B.out)) e4 (L.out.ir (fun _ h=>h.2)) (by omega)).mono ?_);rintro e w7 ⟨v7,r7,rfl,b3,A⟩;have d:=O A;have c3:=O b3;clear A b3)
        have M:=(d.block _ a8).trans a9;have g9:=(VV M 1).trans rfl
        have f4:w7.frozen? ⟨D.heap.size+1,1,none⟩=false:=by rw[World.frozen?,M];rfl
        have b0:=O M;clear M a9;have R:=O (B.trans (d.mono c5));cases r7
        .go_wp2
         go_roundw
         case rel=>exact⟨j+1,ca,cn,cc,zs,by omega,by omega,by go_num,b0,c0.kept ((gE (b7.trans (E.mono F)|>.trans (d.mono (af F E.size)))).mono (fun b h=>h.2)) (fun b h=>⟨h.1,eb h.2 (af F (af E.size d.size))⟩),c1,c6,R⟩
         case measure=>simp[intOf];omega
        .go_wp2
         go_roundw
         case rel=>exact⟨j+1,b1,cn+1,b2,_,by omega,by omega,by go_num,gG b0 1 _,L.kept (((gE d).mono (fun b h=>h.2)).trans ((gK (D+1) [_] 1 w7).mono (fun b h=>by have:=F.out;have:=h.1;omega))) (fun b h=>⟨by have:=F.out;have:=h.1;omega,by(show b<((w7.setCell ⟨D.heap.size+1,1,none⟩ _).heap.size));simp;exact eb h.2 d.size⟩),a7,c3 rfl,R.setCell (p:=⟨D.heap.size+1,1,none⟩) (bY _) _⟩
         case measure=>simp[intOf];omega
      .refine qG rfl (.slice (J (C.drew.heap.size)) 1 1) (.cells #[.int .i64 (X.tmod m),.int .i64 (1+S.tmod 17),.int .i64 (1000*T)] 64) (by go_simp) ?_
       refine r _ _ (rQ (w:=C.drew) (ag C)) ?_;clear r K;(try simp only[V]);have hg:=TL C.drew (.cells #[.int .i64 (X.tmod m),.int .i64 (1+S.tmod 17),.int .i64 (1000*T)] 64);have W:Below C C (C.drew.alloc (.cells #[.int .i64 (X.tmod m),.int .i64 (1+S.tmod 17),.int .i64 (1000*T)] 64)):=gY (jA (TH _ _))
       have e6:(C.drew.alloc (.cells #[.int .i64 (X.tmod m),.int .i64 (1+S.tmod 17),.int .i64 (1000*T)] 64)).heap.size=C.heap.size+1:=by simp
       generalize C.drew.alloc (.cells #[.int .i64 (X.tmod m),.int .i64 (1+S.tmod 17),.int .i64 (1000*T)] 64)=wG at*;refine mm (i:=0) (fun K r=>?_);refine qG rfl (.slice (J (wG.heap.size)) 0 0) (.cells #[] 64) (by go_simp) ?_;refine r _ _ (rQ (w:=wG) W.size) ?_;clear r K;(try simp only[V]);have he:=TL wG (.cells #[] 64);have a3:=W.alloc W.size (.cells #[] 64);have f9:=(TJ wG (.cells #[] 64) _ (TK hg)).trans hg
       have d7:(wG.alloc (.cells #[] 64)).heap.size=wG.heap.size+1:=by simp
       generalize wG.alloc (.cells #[] 64)=wE at*;refine mm (i:=3) (fun K r=>?_);refine xm rfl (.tmp 51) (.tmp 53) rfl (e0:=wG.heap.size) rfl he W.size rfl (a5.kept (gE a3|>.mono (fun b h=>h.2)) (fun b h=>h)) d8 (by omega) ?_;intro v5 w5 Q a1 b5;refine r _ _ a1 ?_;clear r K;(try simp only[V]);have t:=a3.trans a1;have c4:=(b5 C.drew ⟨by(show C.heap.size<_);omega,by(show C.heap.size≠_);omega⟩).trans f9;refine mm (i:=21) (fun K r=>?_);refine Dn rfl (.tmp 54) (.tmp 71) rfl rfl Q rfl c4 (by omega) t.size ?_;intro v6 w6 z a2;refine r _ _ a2 ?_;clear r K;(try simp only[V]);have u:=O z;have E:=O (t.trans a2);clear Q a1 b5 t hg W z a2 he a3 d7 e6 f9 c4;refine ia (i:=22) (fun K r=>?_);go_simp;refine r _ _ (TH _ _) ?_;clear r K;refine lH (by kernel_rfl) ?_;obtain⟨b1,b2,rfl,N,P⟩:=lc u;have a7:=O N;have L:=O P;clear N P u;have a0:=(E.block _ b4).trans b6;have a8:=TK a0;have a9:=O a0;have B:=O (H.trans (E.mono H.size));have c5:=O B.size;have F:=O b7.size;clear a0 b6 a5 H
       go_upto_if 79 with((with_reducible refine(xl l _ sa b1 m sc (cn+1) b2 _ (Hs.out.go iD (I Hb.out B.out)) e4 (L.out.ir (fun _ h=>h.2)) (by omega)).mono ?_);rintro e w7 ⟨v7,r7,rfl,b3,A⟩;have d:=O A;have c3:=O b3;clear A b3)
       have M:=(d.block _ a8).trans a9;have g9:=(VV M 1).trans rfl
       have f4:w7.frozen? ⟨D.heap.size+1,1,none⟩=false:=by rw[World.frozen?,M];rfl
       have b0:=O M;clear M a9;have R:=O (B.trans (d.mono c5));cases r7
       .go_wp2
        go_roundw
        case rel=>exact⟨j+1,ca,cn,cc,zs,by omega,by omega,by go_num,b0,c0.kept ((gE (b7.trans (E.mono F)|>.trans (d.mono (af F E.size)))).mono (fun b h=>h.2)) (fun b h=>⟨h.1,eb h.2 (af F (af E.size d.size))⟩),c1,c6,R⟩
        case measure=>simp[intOf];omega
       .go_wp2
        go_roundw
        case rel=>exact⟨j+1,b1,cn+1,b2,_,by omega,by omega,by go_num,gG b0 1 _,L.kept (((gE d).mono (fun b h=>h.2)).trans ((gK (D+1) [_] 1 w7).mono (fun b h=>by have:=F.out;have:=h.1;omega))) (fun b h=>⟨by have:=F.out;have:=h.1;omega,by(show b<((w7.setCell ⟨D.heap.size+1,1,none⟩ _).heap.size));simp;exact eb h.2 d.size⟩),a7,c3 rfl,R.setCell (p:=⟨D.heap.size+1,1,none⟩) (bY _) _⟩
        case measure=>simp[intOf];omega
     .have hx:¬j<pn\/(j<pn/\ ¬j<4):=by omega
      clear d3
      obtain hx|⟨hx,hx4⟩:=hx
      all_goals
       go_wp2_with(refine qU ky underlying35 Tryz.infoConfig3 rfl (by omega) (by omega) rfl (.tmp 82) (.tmp 84) rfl (w+1) wr _ cf ⟨nm,zs⟩ [nm,Z ca cn cc] rfl (Ho.go ky a6) rfl rfl ⟨ca,cn,cc,rfl,c7.kept (gN.refl _ _) (fun b h=>⟨by omega,h.2,Ho.fresh (by omega)⟩),by omega,c1,h0⟩ (by rw[c2];omega) (by omega) ?_;intro g3 h6 w8 g4 f5;have h1:=O g4;have f1:=O f5;clear g4 f5)
       go_roundw
       case rel=>exact⟨i+1,cf++[⟨nm,zs⟩],by omega,by rw[al,c2];rfl,by go_num,by have q:=h1.out;exact(by simpa using q),⟨(by rw[er,a4.1];show(true&& (lr l ⟨nm,zs⟩&&true))=true;rw[show lr l ⟨nm,zs⟩=true from c6];rfl),by rw[aT,a4.2,mn e7];rfl⟩,((f1 _ _ (ag _) (a6.mono (by omega))).block _ (dk _)).trans Hg,f1 _ _ (bY _) (I Hb a6)⟩
       case measure=>simp[intOf];omega
  .have hx:¬i<n\/(i<n/\ ¬i<2):=by omega
   clear d2
   obtain⟨oa,oc,rfl⟩:∃oa oc,u5=.slice oa i oc:=by
    obtain ⟨e,e2⟩|⟨g,cap,e,-⟩:=Ho.form
    .exact⟨none,0,by rw[e];have:=c2.out;rw[e2]at this;cases this;rfl⟩
    .exact⟨_,_,by rw[e,c2]⟩
   obtain hx|⟨hx,hx4⟩:=hx
   all_goals
    go_wp2;go_ret;exact⟨oa,i,oc,cf,rfl,(Ho.rr2 ky).kept ky (gN.refl _ _) (fun b h=>⟨by omega,h.2⟩),by omega,by(unfold jo;rw[a4.1,a4.2,c2];have h3:i=0\/i=1\/i=2:=by omega);obtain rfl|rfl|rfl:=h3<;>decide+kernel,Hb⟩
def Ns{s:gW}{zs:List Int}{n:Nat}(a:zs.length=n*3)(h:oA s zs n=true): -1000000000<=s.tg/\s.tg<=1000000000:=by
 rw[<- zq s zs n a]at h;unfold tJ nX sr jr at h;simp at h;omega
def jB(c t:Int):gW:={mR with kind:=1,r9:=c,tg:=t}
def wA{c t:Int}(a: -1000000000<=c/\c<=1000000000)(b: -1000000000<=t/\t<=1000000000):tr ⟨jB c t,[]⟩=true:=by
 unfold tr;simp only[cI,fy];show oA (jB c t) [] 0=true
 refine zP rfl (by simp) rfl ?_ ?_
 .constructor<;>first|exact qE 0 (by omega)|(simp only[jB,mR];omega)|(simp[jB,mR];done)|(simp[jB,mR];omega)
 .simp[rM,mT,kK,jB,mR]
structure Ig (w:World) (x:rz) (s f v k:iJ) (sv:Value) (l:List gM) (wx:World):Prop where
 q:∃lq:List jT,qt lq=l/\jD rL 22 58 (w+2) wx sv lq/\qu lq/\Em wx lq
 d:oU wx w x s f v k
 z:wx.heap[w.heap.size+1]? =some (.cells #[ik,oZ,oZ,oZ,oZ,oN,oN,oN,oN] 37 (0,0))
 b:Below w w wx
 ok:∀y∈l,tr y=true
def Ig.o{w:World}{x:rz}{s f v k:iJ}{a:Value}{l:List gM}{b:World}(h:Ig w x s f v k a l b):jD jE 22 58 (w+2) b a l:=by
 obtain⟨d,rfl,c,_⟩:=h.q;exact c.qr
def Ig.go{w:World}{x:rz}{s f v k:iJ}{c:Value}{l:List gM}{a e:World}(h:Ig w x s f v k c l a)(hb:Below a a e):Ig w x s f v k c l e:=
 ⟨(let⟨lq,h1,h2,h3,h4⟩:=h.q;⟨lq,h1,h2.go jX hb,h3,h4.mono hb.size⟩),h.d.go hb,(hb.block _ (TK h.z)).trans h.z,I h.b hb,h.ok⟩
def Ig.more{w:World}{x:rz}{s f v k:iJ}{A:Value}{l:List gM}{y:jT}{c:World}(h:Ig w x s f v k A l c){e:List jT}(r:qt e=l)(n:qu e){i:Nat}(j:Em i e)(p:i<=y.lo)(o:y.lo<=y.hi)(C:y.hi<=c.heap.size)(u:tr y.y=true){m:Value}{g:World}(t:jD rL 22 58 (w+2) g m (e++[y]))
 (hb:∀B w0,B<=w.heap.size+2->Below B w0 c->Below B w0 g):Ig w x s f v k m (l++[y.y]) g:=by
 have D:c.heap.size<=g.heap.size:=(hb _ _ (ag _) (TH (w+2) c)).size;have h2:=hb _ _ (ag _) (TH (w+2) c);refine⟨⟨_,by rw[Ek,r];rfl,t,n.snoc (fun q a=>af (j q a).2 p),(j.mono (by omega)).snoc o (by omega)⟩,(h2.block _ (by omega)).trans h.d,(h2.block _ (by omega)).trans h.z,hb _ _ (by omega) h.b,fun q a=>?_⟩
 obtain a|a:=bj.1 a
 .exact h.ok q a
 .obtain rfl:=aK.1 a;exact u
def Ig.size{w:World}{x:rz}{s f v k:iJ}{b:Value}{l:List gM}{a:World}(h:Ig w x s f v k b l a):w.heap.size+2<=a.heap.size:=TK h.z
def Nt{l:List gM}{c:Int}{a:Int}(h0:1<=l.length)(h5:l.length<=5)(d:∀y∈l,tr y=true)(e: -1000000000<=c/\c<=1000000000)(h:0<=a)(i:a<l.length)(g:kU l a≠3):iW a (l++[⟨jB c 0,[]⟩])=true:=by
 unfold iW
 have h1:uM (l++[⟨jB c 0,[]⟩])=false:=by
  unfold uM;rw[du];intro y b
  obtain b|b:=bj.1 b
  .rw[d y b];simp
  .obtain rfl:=aK.1 b
   rw[wA e (by omega)];simp
 have h2:pe (l++[⟨jB c 0,[]⟩])=true:=by
  unfold pe;rw[al,gv,cY,aY (ag _),eC];have f:=(qz ik).2 rfl
  show pM (jB c 0) _=true
  simp[pM,jB,mR,f]
 have h3:kU (l++[⟨jB c 0,[]⟩]) a=kU l a:=by
  unfold kU;rw[aF (by omega)]
 rw[h1,h2,h3];simp[bt,g];omega
def Fc:kI ⟨#[100,114,97,102,116]⟩=true:=by decide+kernel
def Nu{y:gR}(a:kI y.nm=true)(c:0<=y.i9/\y.i9<=1000000000)(d:1<=y.pb/\y.pb<=1000000000)(hf:jx y.i9 y.fs (y.fs.length/2)=true)(hw:VY y.p9 y.ws (y.ws.length/2)=true)(b:iW y.stop y.l=true)(h5:jo y.l y.cf=true):iI y=true:=by
 unfold iI
 have h1:pN y.i9 y.pb=true:=by unfold pN bt;simp;omega
 simp[bV,jO,a,h1,hf,hw,b,h5]
def JD(x:rz):List gM:=(x.surfs.take 5).map oh
def om(x:rz):List gM:=if(JD x).length=0 then[⟨jB 0 10000000,[]⟩]else JD x
def Do(l:List gM)(i:Nat):Int:=match l[i]? with
 |some y=>y.s.tg
 |none=>0
def zT(x:rz):Nat:=(x.stop% ((om x).length:Int)).toNat
def zU(x:rz):List gM:=if kU (om x) (zT x)=3 then(om x).set (zT x) ⟨jB 0 (Do (om x) (zT x)),[]⟩else om x
def Dp(x:rz):List gM:=zU x++[⟨jB (1000*x.il) 0,[]⟩]
def SD(x:rz)(w:World)(e:Ending)(w':World):Prop:=
 ∃y f v s k,e=.returned (jG y f v s k)/\mj (fun b=>w.heap.size<=b/\b<w'.heap.size) w' y f v s k/\iI y=true/\y.l=Dp x/\y.i9=uP x/\y.pb=100000*(1+x.pb)/\xV y.ws (y.ws.length/2)/\Below w w w'
def Fe{fn:Func}{p:Tmp}{tmps:Array Value}{w:World}{g:Nat}{x:gR}{f v s k:iJ}(h:fn.results=#[.cell p 37])(a:tmps.getD p undef=.pointer (J g))(b:kr w g 37 x f v s k):
 (results fn tmps).run prog w=.ok (jG x f v s k) w:=
 results_cell_row h tmps w g 37 _ (0,0) _ a b underlying37 rfl Tryz.infoLens
def Nv{P:Program}{c:Oper}{a:Act}{y:World}{b:Nat}{x:rz}{s f v k:iJ}{d:TypeDesc}(h:oU y b x s f v k)(i:P.underlying 28=some d)(e:d.isRow=true)(hi:(P.info? 28).map (·.size)=some 9)(z:Operand)(g:c.op=.load 28 z)
 (j:a.eval z=.pointer (J b)):(execOp a.eval c).run P y=.ok (.value (EW x s f v k)) y:=by
 unfold execOp;simp only[g,j,Instr.loadAt,Instr.sureAddr,bR,cT,bU,run_loadVar_mid y b 0 28 (lI x s f v k) d h.range i e hi];rfl
def rB{ops:Array Oper}{Q:Exit->Act->World->Prop}{B i m:Nat}{c:List Nat}{e:Oper}{a:Array Bool}{d:Act}{w:World}(hi:ops.toList[i]? =some e)
 (hw:Region.wanted e (yielded ops d.tmps)=true){b:Nat}{x:rz}{s f v k:iJ}(h:∀y,Below B w y->oU y b x s f v k)(z:Operand)(j:e.op=.load 28 z)
 (l:d.eval z=.pointer (J b))(g:Ec B prog ops Q c m (a.setIfInBounds i true) (d.put e.dst (EW x s f v k)) w):Ec B prog ops Q (i::c) m a d w:=
 jW hi hw (fun y n=>Nv (h y n) underlying28 rfl Tryz.infoDrL z j l) g
