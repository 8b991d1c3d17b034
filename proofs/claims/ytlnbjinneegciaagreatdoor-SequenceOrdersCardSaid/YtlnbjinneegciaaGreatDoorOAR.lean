import Derived.Test.YtlnbjinneegciaaGreatDoorOAP
import Derived.Test.YtlnbjinneegciaaGreatDoorOAQ
import Derived.Test.YtlnbjinneegciaaGreatDoorOAJ
import Derived.Deep.Slices
namespace Go.Proofs.YtlnbjinneegciaaGreatDoor
set_option linter.all false
set_option maxRecDepth 100000
set_option maxHeartbeats 12800000
open Go.Proofs.Tryz Go.RowKit Go.ChangeShapes Go.WideShapes Go.ChangeAt
def Rs(l:List gM)(w:World)(e:Ending)(w':World):Prop:=
 ∃a n c cf,e=.returned (.slice a n c)/\RR oB 2 (fun b=>w.heap.size<=b/\b<w'.heap.size) w' a n c cf/\n<=2/\jo l cf=true/\Below w w w'
def Cl:ByteArray:=⟨#[110,101,97,114]⟩
def Cm:ByteArray:=⟨#[102,97,114]⟩
def PL{S:Nat->Prop}{w:World}{T:TypeId}{cs:Array Value}{ys:List Int}{k b:Nat}(d:w.heap[b]? =some (.cells cs T (0,0)))(c:S b)(e:ys.length=1*k)(h:cs=(ys.map (Value.int .i64)).toArray):IRp S w k (J b) 1 1 ys:=by
 subst h;refine⟨e,aa _,fun _=>⟨_,0,rfl,c,fun j f=>?_⟩⟩
 have a:j<ys.length:=by omega
 rw[aV,VV d j];simp[ah,a]
def rQ{B:Nat}{w:World}{o:Obj}(h:B<=w.heap.size):Below B w (w.alloc o):=(TH _ _).alloc h _
def xl(l:List gM)(zs:List Int)(a b:Option Addr)(m d n c:Nat)(w:World)(h:RR jE 22 (fun b=>b<w.heap.size) w a m d l)(k:m<=1000000)(j:IR w w 3 b n c zs)(o:n<=1000000):
 Calls prog 79 #[Z a m d,Z b n c] w (fun e w'=>∃(v:Value)(r:Bool),e=.returned (.tuple #[v,r])/\(r=true->lr l ⟨ik,zs⟩=true)/\Below w w w'):=by
 have i:n=zs.length/3:=by rw[j.1];omega
 refine(wW l zs a b m d n c w h k j o).mono ?_;rintro e w' (⟨_,rfl,f⟩|⟨l',v,g,rfl,_,f⟩)
 .exact⟨_,_,rfl,(fun h=>by cases h),f⟩
 .exact⟨_,_,rfl,(fun h=>by unfold lr;simp only;rw[<- i,g];exact h),f⟩
def xm{ops:Array Oper}{c:List Oper}{o:Oper}{a:Act}{Q:Exit->Act->World->Prop}{w:World}{B e0:Nat}(i:o.guard=none)(s x:Operand)(l:o.op=.call {callee:=.builtin .append,args:=#[s,x],argTypes:=#[75,75]})
 (hs:a.eval s=.slice (J e0) 0 0)(he:w.heap[e0]? =some (.cells #[] 74 (0,0)))(hB:B<=e0){S:Nat->Prop}{ca:Option Addr}{cn cc:Nat}{zs:List Int}(hx:a.eval x=.slice ca cn cc)(hir:IRp S w 3 ca cn cc zs)(hcc:ca=none->cc=0)(hcn:cn<=4)
 (h:∀f w',w'.ownsRow B 74 3 f cn (zs.map (Value.int .i64))->Below B w w'->gN (fun b=>b<w.heap.size/\b≠e0) w w'->wpList prog ops Q c (a.put o.dst f) w'):wpList prog ops Q (o::c) a w:=by
 have hlt:=TK he;have d:w.ownsRow B 74 3 (.slice (J e0) 0 0) 0 (([]:List Int).map (Value.int .i64)):=⟨by simp,.inr ⟨e0,0,#[],rfl,hB,he,aa _,by unfold maxLen;omega,rfl,by simp⟩⟩;refine je underlying75 Tryz.infoChange3 rfl (by omega) (by omega) i s x l B _ 0 [] hs d S ca cn cc zs hx hir hcc (by omega) (by omega) ?_;intro f w' h1 h2;rw[aV]at h1;exact h f w' h1 ((TH B w).grown h2 (by omega) (fun k j=>by simp[Value.ownBlock]at j;omega)) ((nW h2).mono (fun b g=>⟨g.1,by simp[Value.ownBlock];exact fun e=>g.2 e.symm⟩))
def Dn{ops:Array Oper}{b:List Oper}{o:Oper}{a:Act}{Q:Exit->Act->World->Prop}{w:World}{B g:Nat}(d:o.guard=none)(s x:Operand)(i:o.op=.call {callee:=.builtin .append,args:=#[s,x],argTypes:=#[75,75]})
 {v:Value}{cn:Nat}{zs:List Int}(hs:a.eval s=v)(hown:w.ownsRow B 74 3 v cn (zs.map (Value.int .i64)))(hx:a.eval x=.slice (J g) 1 1){q0 q1 q2:Int}(hg:w.heap[g]? =some (.cells #[q0,q1,q2] 74 (0,0)))(hcn:cn<=4)(hB:B<=w.heap.size)
 (h:∀c w',w'.ownsRow B 74 3 c (cn+1) ((zs++[q0,q1,q2]).map (Value.int .i64))->Below B w w'->wpList prog ops Q b (a.put o.dst c) w'):wpList prog ops Q (o::b) a w:=by
 refine je underlying75 Tryz.infoChange3 rfl (by omega) (by omega) d s x i B v cn zs hs hown (fun _=>True) _ 1 1 [q0,q1,q2] hx (PL hg trivial rfl rfl) (fun e=>by cases e) (by omega) hB ?_;intro c w' h1 h2;exact h c w' h1 ((TH B w).grown h2 hB (fun k f=>(hown.lt k f).1))
def KV(x:rz)(s f v k:iJ)(l:List gM)(sa:Option Addr)(m sc:Nat)(w:World)(hk:RR JA 1 (fun b=>b<w.heap.size) w k.a k.n k.c x.puts)(hs:RR jE 22 (fun b=>b<w.heap.size) w sa m sc l)(hm:1<=m)(e4:m<=1000000):
 Calls prog 49 #[EW x s f v k,Z sa m sc] w (Rs l w):=by
 obtain⟨ka,n,kc⟩:=k;have Hk:=O hk;have Hs:=O hs;clear hk hs
 have i6:((m:Int)==0)=false:=by simp;omega
 have f3:=O (oU.new w x s f v ⟨ka,n,kc⟩);have e9:=O ((TH w w).alloc (aa _) (.cells (lI x s f v ⟨ka,n,kc⟩).toArray 28));go_enter func49,ntmps49;go_upto_region 1 with fail;refine gI (fun wx=>oU wx w x s f v ⟨ka,n,kc⟩/\Below w w wx) ⟨f3,e9⟩ ?_;clear f3 e9;rintro w1 ⟨hg,hb⟩;have hl:=hg.lt;have Hg:=O hg;have f0:=O hb;clear hg hb;go_wp2
 go_loopw [5,6] (fun ov iv wr=>∃(i:Nat)(cf:List jd),i<=2/\cf.length=i/\iv=.int .i64 (i:Int)/\jD oB 2 77 (w+1) wr ov cf/\(cf.all (lr l)=true/\cf.map jd.nm=[Cl,Cm].take i)/\oU wr w x s f v ⟨ka,n,kc⟩/\Below w w wr) (fun _ iv _=>2-(intOf iv).toNat)
 case atStart=>exact⟨0,[],by omega,rfl,rfl,jD.nil _ _ _ _ _,⟨rfl,rfl⟩,Hg,f0⟩
 case round=>
  clear Hg f0 hl;obtain⟨i,cf,hi,f7,rfl,ho,b9,hg,hb⟩:=hrel;have a4:=O b9;clear b9;obtain⟨-,-,-,-,-,-,-,-,c8⟩:=hg.cells;have hl:=hg.lt;have Ho:=O ho;have Hg:=O hg;have Hb:=O hb;have c2:=O f7;clear ho hg hb f7;by_cases d2:i<n/\i<2
  .obtain⟨d2,i3⟩:=d2
   obtain⟨D,rfl⟩:∃D:World,D=wr:=⟨_,rfl⟩;obtain⟨bk,ko,ps,i8,e1,h4,-,⟨pa,pn,pc,rfl,g6⟩,g5⟩:=(Hk.kept Id (gE Hb) (fun b h=>h)).at d2
   try simp only at e1
   subst e1;have p0:=g5 0 _ rfl;rw[bE,dn]at p0;have P0:=O p0;have h2:=O g6;have d4:bk<D.heap.size:=ab h4 Hb.size;clear p0 g6 g5;go_upto_region 5 with fail
   go_cut [7] (fun v7 wx=>v7=.pointer (J (D+1))/\ ∃nm:ByteArray,nm.size<=9223372036854775807/\[Cl,Cm][i]? =some nm/\wx.heap[D.heap.size+1]? =some (.cells #[nm,oN] 77 (0,0))/\Below D D wx)
   case first=>
    have e8:i=0\/i=1:=by omega
    obtain rfl|rfl:=e8
    .go_wp2
     go_meet;refine⟨rfl,Cl,by decide,rfl,?_,gY (gY (TH _ _))⟩;have h:=TL (D.alloc (.cells #[Cl,Cm] 9)) (.cells #[Cl,oN] 77);rw[Wf]at h;exact h
    .go_wp2
     go_meet;refine⟨rfl,Cm,by decide,rfl,?_,gY (gY (TH _ _))⟩;have h:=TL (D.alloc (.cells #[Cl,Cm] 9)) (.cells #[Cm,oN] 77);rw[Wf]at h;exact h
   case rest=>
    obtain⟨rfl,nm,g2,d5,h7,A⟩:=hcut;have e7:=O d5;clear d5;have d9:=TK h7;have H7:=O h7;have a6:=O A;have h0:=O g2;clear h7 A g2 c8;go_wp2
    go_loopw [8] (fun jv wr=>∃(j:Nat)(ca:Option Addr)(cn cc:Nat)(zs:List Int),j<=4/\cn<=j/\jv=.int .i64 (j:Int)/\wr.heap[D.heap.size+1]? =some (.cells #[nm,Z ca cn cc] 77 (0,0))/\IRp (fun b=>D.heap.size+1<b/\b<wr.heap.size) wr 3 ca cn cc zs/\(ca=none->cc=0)/\lr l ⟨ik,zs⟩=true/\Below D D wr) (fun jv _=>4-(intOf jv).toNat)
    case atStart=>exact⟨0,none,0,0,[],by omega,by omega,rfl,H7,IRp.nil _ _ _ _ _,fun _=>rfl,rfl,a6⟩
    case round=>
     clear H7 a6 d9;obtain⟨j,ca,cn,cc,zs,hj,i2,rfl,h7,g1,f6,g0,A⟩:=hrel;have c6:=O g0;clear g0;have d9:=TK h7;have c8:=((Hg.go A).cells).2.2.2.2.2.2.2.2;have p0:=(A.cell (p:=⟨bk,ko+i,none⟩) d4).trans P0;have i5:w.heap.size<wr.heap.size:=ab hl A.size;have h8:bk<wr.heap.size:=ab d4 A.size;have i1:=A.size;have d0:=(VV h7 0).trans rfl;have d1:=(VV h7 1).trans rfl;have H7:=O h7;have c7:=O g1;have c1:=O f6;have a6:=O A;clear h7 g1 f6 A;by_cases d3:j<pn/\j<4
     .obtain⟨d3,i4⟩:=d3
      obtain⟨bp,po,q,i9,e1,h5,-,⟨rfl,g7,e5,g8⟩,d6⟩:=(h2.kept QA ((gE a6).mono (fun b h=>ab h Hb.size)) (fun b h=>h)).at d3;subst e1;have x0:=d6 0 _ rfl;have x1:=d6 1 _ rfl;have x2:=d6 2 _ rfl;rw[bE]at x0;have i0:bp<wr.heap.size:=ab h5 (by have:=Hb.size;omega);obtain⟨X,S,T⟩:=q;unfold og at g7 e5;unfold qD at g8;simp only at x0 x1 x2 g7 e5 g8;clear d6;obtain⟨wq,rfl⟩:∃wq:World,wq=wr:=⟨_,rfl⟩;have c9:=O (TL wq (.cells #[.int .u8 X,.int .u8 S,.int .i16 T] 166));have f2:=O ((TH wq wq).alloc (aa _) (.cells #[.int .u8 X,.int .u8 S,.int .i16 T] 166));go_upto_region 10 with fail;refine gI (fun wx=>wx.heap[wq.heap.size]? =some (.cells #[.int .u8 X,.int .u8 S,.int .i16 T] 166 (0,0))/\Below wq wq wx) ⟨c9,f2⟩ ?_;clear c9 f2 x0 x1 x2 c8 p0 d0 d1;rintro C ⟨h9,b8⟩;have e3:=TK h9;have x0:=(VV h9 0).trans rfl;have x1:=(VV h9 1).trans rfl;have x2:=(VV h9 2).trans rfl;have h7:=(b8.block _ d9).trans H7;have d1:=(VV h7 1).trans rfl;have b4:=TK h7;have a5:=O (c7.kept ((gE b8).mono (fun b h=>h.2)) (fun b h=>(⟨h.1,ab h.2 b8.size⟩:D.heap.size+1<b/\b<C.heap.size)));have b6:=O h7;have b7:=O b8;have H:=O ((a6).trans (b8.mono a6.size));have c0:=c7;clear h9 h7 b8 H7 c7
      have i7:¬m=0:=by omega
      have u0:IntKind.i64.wrap X=X:=TM _ (by omega);have u1:IntKind.i64.wrap S=S:=TM _ (by omega);have u2:IntKind.i64.wrap (1+S.tmod 17)=1+S.tmod 17:=TM _ (by have:=sJ e5.1 17 (by omega);omega);have u3:IntKind.i64.wrap T=T:=TM _ (by omega);have u4:IntKind.i64.wrap (1000*T)=1000*T:=TM _ (by omega);refine jw (C.heap.size) [1,2,4,5,6,7,8,9,10,11,12,13,14,15,16,17,18,19] 5 (by kernel_rfl) rfl (by kernel_rfl) (by kernel_rfl) (fun _ _ o _ _ h=>by cases o<;>exact h) ?_
      iterate 18
       refine jW (v:=?_) rfl (by rfl) ?_ ?_;rotate_left
       .intro y hy
        have z0:=(hy.cell (p:=J (wq.heap.size)) e3).trans x0;have z1:=(hy.cell (p:=⟨wq.heap.size,1,none⟩) e3).trans x1;have z2:=(hy.cell (p:=⟨wq.heap.size,2,none⟩) e3).trans x2;have z3:=(hy.cell (p:=⟨D.heap.size+1,1,none⟩) b4).trans d1;go_simp;with_reducible rfl
       try simp only[V]
      refine mB ?_;clear x0 x1 x2 d1;have d8:=O c1.out;refine Fb (i:=0) (j:=20) (by kernel_rfl) rfl rfl rfl rfl (fun K r=>?_) (fun K r=>?_)
      .refine qG rfl (.slice (J (C.drew.heap.size)) 0 0) (.cells #[] 74) (by go_simp) ?_
       refine r _ _ (rQ (w:=C.drew) (aa C)) ?_;clear r K;(try simp only[V]);have he:=TL C.drew (.cells #[] 74);have a3:Below C C (C.drew.alloc (.cells #[] 74)):=gY (jA (TH _ _))
       have d7:(C.drew.alloc (.cells #[] 74)).heap.size=C.heap.size+1:=by simp
       generalize C.drew.alloc (.cells #[] 74)=wE at*;refine Fb (i:=3) (j:=20) (by kernel_rfl) rfl rfl rfl rfl (fun K r=>?_) (fun K r=>?_)
       .refine xm rfl (.tmp 51) (.tmp 53) rfl (e0:=C.heap.size) rfl he (aa _) rfl (a5.kept (gE a3|>.mono (fun b h=>h.2)) (fun b h=>h)) d8 (by omega) ?_
        intro v5 w5 Q a1 b5;refine r _ _ a1 ?_;clear r K;(try simp only[V]);have t:=a3.trans a1;refine mm (i:=20) (fun K r=>?_);refine qG rfl (.slice (J (w5.heap.size)) 1 1) (.cells #[.int .i64 (X.tmod m),.int .i64 (1+S.tmod 17),.int .i64 (1000*T)] 74) (by go_simp) ?_;refine r _ _ (rQ (w:=w5) t.size) ?_;clear r K;(try simp only[V]);have hg:=TL w5 (.cells #[.int .i64 (X.tmod m),.int .i64 (1+S.tmod 17),.int .i64 (1000*T)] 74);have W:=t.alloc t.size (.cells #[.int .i64 (X.tmod m),.int .i64 (1+S.tmod 17),.int .i64 (1000*T)] 74);refine mm (i:=21) (fun K r=>?_);refine Dn rfl (.tmp 54) (.tmp 71) rfl rfl (Q.alloc _) rfl hg (by omega) W.size ?_;intro v6 w6 z a2;refine r _ _ a2 ?_;clear r K;(try simp only[V]);have u:=O z;have E:=O (W.trans a2);clear Q a1 b5 t hg W z a2 he a3 d7;refine ia (i:=22) (fun K r=>?_);go_simp;refine r _ _ (TH _ _) ?_;clear r K;refine lH (by kernel_rfl) ?_;obtain⟨b1,b2,rfl,N,P⟩:=lc u;have a7:=O N;have L:=O P;clear N P u;have a0:=(E.block _ b4).trans b6;have a8:=TK a0;have a9:=O a0;have B:=O (H.trans (E.mono H.size));have c5:=O B.size;have F:=O b7.size;clear a0 b6 a5 H
        go_upto_if 79 with((with_reducible refine(xl l _ sa b1 m sc (cn+1) b2 _ (Hs.out.go iD (I Hb.out B.out)) e4 (L.out.ir (fun _ h=>h.2)) (by omega)).mono ?_);rintro e w7 ⟨v7,r7,rfl,b3,A⟩;have d:=O A;have c3:=O b3;clear A b3)
        have M:=(d.block _ a8).trans a9;have g9:=(VV M 1).trans rfl
        have f4:w7.frozen? ⟨D.heap.size+1,1,none⟩=false:=by rw[World.frozen?,M];rfl
        have b0:=O M;clear M a9;have R:=O (B.trans (d.mono c5));cases r7
        .go_wp2
         go_roundw
         case rel=>exact⟨j+1,ca,cn,cc,zs,by omega,by omega,by go_num,b0,c0.kept ((gE (b7.trans (E.mono F)|>.trans (d.mono (af F E.size)))).mono (fun b h=>h.2)) (fun b h=>⟨h.1,ab h.2 (af F (af E.size d.size))⟩),c1,c6,R⟩
         case measure=>simp[intOf];omega
        .go_wp2
         go_roundw
         case rel=>exact⟨j+1,b1,cn+1,b2,_,by omega,by omega,by go_num,gG b0 1 _,L.kept (((gE d).mono (fun b h=>h.2)).trans ((gK (D+1) [_] 1 w7).mono (fun b h=>by have:=F.out;have:=h.1;omega))) (fun b h=>⟨by have:=F.out;have:=h.1;omega,by(show b<((w7.setCell ⟨D.heap.size+1,1,none⟩ _).heap.size));simp;exact ab h.2 d.size⟩),a7,c3 rfl,R.setCell (p:=⟨D.heap.size+1,1,none⟩) (bY _) _⟩
         case measure=>simp[intOf];omega
       .refine qG rfl (.slice (J (wE.heap.size)) 1 1) (.cells #[.int .i64 (X.tmod m),.int .i64 (1+S.tmod 17),.int .i64 (1000*T)] 74) (by go_simp) ?_
        refine r _ _ (rQ (w:=wE) a3.size) ?_;clear r K;(try simp only[V]);have hg:=TL wE (.cells #[.int .i64 (X.tmod m),.int .i64 (1+S.tmod 17),.int .i64 (1000*T)] 74);have W:=a3.alloc a3.size (.cells #[.int .i64 (X.tmod m),.int .i64 (1+S.tmod 17),.int .i64 (1000*T)] 74);have f8:=(TJ wE (.cells #[.int .i64 (X.tmod m),.int .i64 (1+S.tmod 17),.int .i64 (1000*T)] 74) _ (TK he)).trans he
        have e6:(wE.alloc (.cells #[.int .i64 (X.tmod m),.int .i64 (1+S.tmod 17),.int .i64 (1000*T)] 74)).heap.size=wE.heap.size+1:=by simp
        generalize wE.alloc (.cells #[.int .i64 (X.tmod m),.int .i64 (1+S.tmod 17),.int .i64 (1000*T)] 74)=wG at*;refine mm (i:=3) (fun K r=>?_);refine xm rfl (.tmp 51) (.tmp 53) rfl (e0:=C.heap.size) rfl f8 (aa _) rfl (a5.kept (gE W|>.mono (fun b h=>h.2)) (fun b h=>h)) d8 (by omega) ?_;intro v5 w5 Q a1 b5;refine r _ _ a1 ?_;clear r K;(try simp only[V]);have t:=W.trans a1;have c4:=(b5 wE ⟨by omega,by omega⟩).trans hg;refine mm (i:=21) (fun K r=>?_);refine Dn rfl (.tmp 54) (.tmp 71) rfl rfl Q rfl c4 (by omega) t.size ?_;intro v6 w6 z a2;refine r _ _ a2 ?_;clear r K;(try simp only[V]);have u:=O z;have E:=O (t.trans a2);clear Q a1 b5 t hg W z a2 he a3 d7 e6 f8 c4;refine ia (i:=22) (fun K r=>?_);go_simp;refine r _ _ (TH _ _) ?_;clear r K;refine lH (by kernel_rfl) ?_;obtain⟨b1,b2,rfl,N,P⟩:=lc u;have a7:=O N;have L:=O P;clear N P u;have a0:=(E.block _ b4).trans b6;have a8:=TK a0;have a9:=O a0;have B:=O (H.trans (E.mono H.size));have c5:=O B.size;have F:=O b7.size;clear a0 b6 a5 H
        go_upto_if 79 with((with_reducible refine(xl l _ sa b1 m sc (cn+1) b2 _ (Hs.out.go iD (I Hb.out B.out)) e4 (L.out.ir (fun _ h=>h.2)) (by omega)).mono ?_);rintro e w7 ⟨v7,r7,rfl,b3,A⟩;have d:=O A;have c3:=O b3;clear A b3)
        have M:=(d.block _ a8).trans a9;have g9:=(VV M 1).trans rfl
        have f4:w7.frozen? ⟨D.heap.size+1,1,none⟩=false:=by rw[World.frozen?,M];rfl
        have b0:=O M;clear M a9;have R:=O (B.trans (d.mono c5));cases r7
        .go_wp2
         go_roundw
         case rel=>exact⟨j+1,ca,cn,cc,zs,by omega,by omega,by go_num,b0,c0.kept ((gE (b7.trans (E.mono F)|>.trans (d.mono (af F E.size)))).mono (fun b h=>h.2)) (fun b h=>⟨h.1,ab h.2 (af F (af E.size d.size))⟩),c1,c6,R⟩
         case measure=>simp[intOf];omega
        .go_wp2
         go_roundw
         case rel=>exact⟨j+1,b1,cn+1,b2,_,by omega,by omega,by go_num,gG b0 1 _,L.kept (((gE d).mono (fun b h=>h.2)).trans ((gK (D+1) [_] 1 w7).mono (fun b h=>by have:=F.out;have:=h.1;omega))) (fun b h=>⟨by have:=F.out;have:=h.1;omega,by(show b<((w7.setCell ⟨D.heap.size+1,1,none⟩ _).heap.size));simp;exact ab h.2 d.size⟩),a7,c3 rfl,R.setCell (p:=⟨D.heap.size+1,1,none⟩) (bY _) _⟩
         case measure=>simp[intOf];omega
      .refine qG rfl (.slice (J (C.drew.heap.size)) 1 1) (.cells #[.int .i64 (X.tmod m),.int .i64 (1+S.tmod 17),.int .i64 (1000*T)] 74) (by go_simp) ?_
       refine r _ _ (rQ (w:=C.drew) (aa C)) ?_;clear r K;(try simp only[V]);have hg:=TL C.drew (.cells #[.int .i64 (X.tmod m),.int .i64 (1+S.tmod 17),.int .i64 (1000*T)] 74);have W:Below C C (C.drew.alloc (.cells #[.int .i64 (X.tmod m),.int .i64 (1+S.tmod 17),.int .i64 (1000*T)] 74)):=gY (jA (TH _ _))
       have e6:(C.drew.alloc (.cells #[.int .i64 (X.tmod m),.int .i64 (1+S.tmod 17),.int .i64 (1000*T)] 74)).heap.size=C.heap.size+1:=by simp
       generalize C.drew.alloc (.cells #[.int .i64 (X.tmod m),.int .i64 (1+S.tmod 17),.int .i64 (1000*T)] 74)=wG at*;refine mm (i:=0) (fun K r=>?_);refine qG rfl (.slice (J (wG.heap.size)) 0 0) (.cells #[] 74) (by go_simp) ?_;refine r _ _ (rQ (w:=wG) W.size) ?_;clear r K;(try simp only[V]);have he:=TL wG (.cells #[] 74);have a3:=W.alloc W.size (.cells #[] 74);have f9:=(TJ wG (.cells #[] 74) _ (TK hg)).trans hg
       have d7:(wG.alloc (.cells #[] 74)).heap.size=wG.heap.size+1:=by simp
       generalize wG.alloc (.cells #[] 74)=wE at*;refine mm (i:=3) (fun K r=>?_);refine xm rfl (.tmp 51) (.tmp 53) rfl (e0:=wG.heap.size) rfl he W.size rfl (a5.kept (gE a3|>.mono (fun b h=>h.2)) (fun b h=>h)) d8 (by omega) ?_;intro v5 w5 Q a1 b5;refine r _ _ a1 ?_;clear r K;(try simp only[V]);have t:=a3.trans a1;have c4:=(b5 C.drew ⟨by(show C.heap.size<_);omega,by(show C.heap.size≠_);omega⟩).trans f9;refine mm (i:=21) (fun K r=>?_);refine Dn rfl (.tmp 54) (.tmp 71) rfl rfl Q rfl c4 (by omega) t.size ?_;intro v6 w6 z a2;refine r _ _ a2 ?_;clear r K;(try simp only[V]);have u:=O z;have E:=O (t.trans a2);clear Q a1 b5 t hg W z a2 he a3 d7 e6 f9 c4;refine ia (i:=22) (fun K r=>?_);go_simp;refine r _ _ (TH _ _) ?_;clear r K;refine lH (by kernel_rfl) ?_;obtain⟨b1,b2,rfl,N,P⟩:=lc u;have a7:=O N;have L:=O P;clear N P u;have a0:=(E.block _ b4).trans b6;have a8:=TK a0;have a9:=O a0;have B:=O (H.trans (E.mono H.size));have c5:=O B.size;have F:=O b7.size;clear a0 b6 a5 H
       go_upto_if 79 with((with_reducible refine(xl l _ sa b1 m sc (cn+1) b2 _ (Hs.out.go iD (I Hb.out B.out)) e4 (L.out.ir (fun _ h=>h.2)) (by omega)).mono ?_);rintro e w7 ⟨v7,r7,rfl,b3,A⟩;have d:=O A;have c3:=O b3;clear A b3)
       have M:=(d.block _ a8).trans a9;have g9:=(VV M 1).trans rfl
       have f4:w7.frozen? ⟨D.heap.size+1,1,none⟩=false:=by rw[World.frozen?,M];rfl
       have b0:=O M;clear M a9;have R:=O (B.trans (d.mono c5));cases r7
       .go_wp2
        go_roundw
        case rel=>exact⟨j+1,ca,cn,cc,zs,by omega,by omega,by go_num,b0,c0.kept ((gE (b7.trans (E.mono F)|>.trans (d.mono (af F E.size)))).mono (fun b h=>h.2)) (fun b h=>⟨h.1,ab h.2 (af F (af E.size d.size))⟩),c1,c6,R⟩
        case measure=>simp[intOf];omega
       .go_wp2
        go_roundw
        case rel=>exact⟨j+1,b1,cn+1,b2,_,by omega,by omega,by go_num,gG b0 1 _,L.kept (((gE d).mono (fun b h=>h.2)).trans ((gK (D+1) [_] 1 w7).mono (fun b h=>by have:=F.out;have:=h.1;omega))) (fun b h=>⟨by have:=F.out;have:=h.1;omega,by(show b<((w7.setCell ⟨D.heap.size+1,1,none⟩ _).heap.size));simp;exact ab h.2 d.size⟩),a7,c3 rfl,R.setCell (p:=⟨D.heap.size+1,1,none⟩) (bY _) _⟩
        case measure=>simp[intOf];omega
     .have hx:¬j<pn\/(j<pn/\ ¬j<4):=by omega
      clear d3
      obtain hx|⟨hx,hx4⟩:=hx
      all_goals
       go_wp2_with(refine qU ky underlying36 Tryz.infoConfig3 rfl (by omega) (by omega) rfl (.tmp 82) (.tmp 84) rfl (w+1) wr _ cf ⟨nm,zs⟩ [nm,Z ca cn cc] rfl (Ho.go ky a6) rfl rfl ⟨ca,cn,cc,rfl,c7.kept (gN.refl _ _) (fun b h=>⟨by omega,h.2,Ho.fresh (by omega)⟩),by omega,c1,h0⟩ (by rw[c2];omega) (by omega) ?_;intro g3 h6 w8 g4 f5;have h1:=O g4;have f1:=O f5;clear g4 f5)
       go_roundw
       case rel=>exact⟨i+1,cf++[⟨nm,zs⟩],by omega,by rw[al,c2];rfl,by go_num,by have q:=h1.out;exact(by simpa using q),⟨(by rw[er,a4.1];show(true&& (lr l ⟨nm,zs⟩&&true))=true;rw[show lr l ⟨nm,zs⟩=true from c6];rfl),by rw[aT,a4.2,mn e7];rfl⟩,((f1 _ _ (aa _) (a6.mono (by omega))).block _ (dk _)).trans Hg,f1 _ _ (bY _) (I Hb a6)⟩
       case measure=>simp[intOf];omega
  .have hx:¬i<n\/(i<n/\ ¬i<2):=by omega
   clear d2
   obtain⟨oa,oc,rfl⟩:∃oa oc,u5=.slice oa i oc:=by
    obtain ⟨e,e2⟩|⟨g,cap,e,-⟩:=Ho.form
    .exact⟨none,0,by rw[e];have:=c2.out;rw[e2]at this;cases this;rfl⟩
    .exact⟨_,_,by rw[e,c2]⟩
   obtain hx|⟨hx,hx4⟩:=hx
   all_goals
    go_wp2;go_ret;exact⟨oa,i,oc,cf,rfl,(Ho.rr2 ky).kept ky (gN.refl _ _) (fun b h=>⟨by omega,h.2⟩),by omega,by(unfold jo;rw[a4.1,a4.2,c2];have h3:i=0\/i=1\/i=2:=by omega);obtain rfl|rfl|rfl:=h3<;>decide+kernel,Hb⟩
def Ns{s:gW}{zs:List Int}{n:Nat}(a:zs.length=n*3)(h:oA s zs n=true): -1000000000<=s.tx/\s.tx<=1000000000:=by
 rw[<- zq s zs n a]at h;unfold tJ nX sr jr at h;simp at h;omega
def jB(c t:Int):gW:={mR with kind:=1,t8:=c,tx:=t}
def wA{c t:Int}(a: -1000000000<=c/\c<=1000000000)(b: -1000000000<=t/\t<=1000000000):tr ⟨jB c t,[]⟩=true:=by
 unfold tr;simp only[cI,fy];show oA (jB c t) [] 0=true
 refine zP rfl (by simp) rfl ?_ ?_
 .constructor<;>first|exact qE 0 (by omega)|(simp only[jB,mR];omega)|(simp[jB,mR];done)|(simp[jB,mR];omega)
 .simp[rM,mT,kK,jB,mR]
structure Ig (w:World) (x:rz) (s f v k:iJ) (sv:Value) (l:List gM) (wx:World):Prop where
 q:∃lq:List jT,qt lq=l/\jD rL 22 64 (w+2) wx sv lq/\qu lq/\Em wx lq
 d:oU wx w x s f v k
 z:wx.heap[w.heap.size+1]? =some (.cells #[ik,oZ,oZ,oZ,oZ,oN,oN,oN,oN] 38 (0,0))
 b:Below w w wx
 ok:∀y∈l,tr y=true
def Ig.o{w:World}{x:rz}{s f v k:iJ}{a:Value}{l:List gM}{b:World}(h:Ig w x s f v k a l b):jD jE 22 64 (w+2) b a l:=by
 obtain⟨d,rfl,c,_⟩:=h.q;exact c.qr
def Ig.go{w:World}{x:rz}{s f v k:iJ}{e:Value}{l:List gM}{c g:World}(h:Ig w x s f v k e l c)(a:Below c c g):Ig w x s f v k e l g:=
 ⟨(let⟨lq,h1,h2,h3,h4⟩:=h.q;⟨lq,h1,h2.go jX a,h3,h4.mono a.size⟩),h.d.go a,(a.block _ (TK h.z)).trans h.z,I h.b a,h.ok⟩
def Ig.more{w:World}{x:rz}{s f v k:iJ}{C:Value}{l:List gM}{y:jT}{c:World}(h:Ig w x s f v k C l c){e:List jT}(t:qt e=l)(o:qu e){i:Nat}(j:Em i e)(r:i<=y.lo)(p:y.lo<=y.hi)(D:y.hi<=c.heap.size)(A:tr y.y=true){m:Value}{g:World}(u:jD rL 22 64 (w+2) g m (e++[y]))
 (n:∀B w0,B<=w.heap.size+2->Below B w0 c->Below B w0 g):Ig w x s f v k m (l++[y.y]) g:=by
 have E:c.heap.size<=g.heap.size:=(n _ _ (aa _) (TH (w+2) c)).size;have h2:=n _ _ (aa _) (TH (w+2) c);refine⟨⟨_,by rw[Ek,t];rfl,u,o.snoc (fun q a=>af (j q a).2 r),(j.mono (by omega)).snoc p (by omega)⟩,(h2.block _ (by omega)).trans h.d,(h2.block _ (by omega)).trans h.z,n _ _ (by omega) h.b,fun q a=>?_⟩
 obtain a|a:=bj.1 a
 .exact h.ok q a
 .obtain rfl:=aK.1 a;exact A
def Ig.size{w:World}{x:rz}{s f v k:iJ}{b:Value}{l:List gM}{a:World}(h:Ig w x s f v k b l a):w.heap.size+2<=a.heap.size:=TK h.z
def Nt{l:List gM}{c:Int}{a:Int}(h0:1<=l.length)(h5:l.length<=5)(d:∀y∈l,tr y=true)(e: -1000000000<=c/\c<=1000000000)(h:0<=a)(i:a<l.length)(g:kU l a≠3):iW a (l++[⟨jB c 0,[]⟩])=true:=by
 unfold iW
 have h1:uM (l++[⟨jB c 0,[]⟩])=false:=by
  unfold uM;rw[du];intro y b
  obtain b|b:=bj.1 b
  .rw[d y b];simp
  .obtain rfl:=aK.1 b
   rw[wA e (by omega)];simp
 have h2:pe (l++[⟨jB c 0,[]⟩])=true:=by
  unfold pe;rw[al,gv,cY,aY (aa _),eC];have f:=(qz ik).2 rfl
  show pM (jB c 0) _=true
  simp[pM,jB,mR,f]
 have h3:kU (l++[⟨jB c 0,[]⟩]) a=kU l a:=by
  unfold kU;rw[aF (by omega)]
 rw[h1,h2,h3];simp[bt,g];omega
def Fc:kI ⟨#[100,114,97,102,116]⟩=true:=by decide+kernel
def Nu{y:gR}(a:kI y.nm=true)(c:0<=y.i9/\y.i9<=1000000000)(d:1<=y.p9/\y.p9<=1000000000)(hf:jx y.i9 y.fs (y.fs.length/2)=true)(hw:VY y.i4 y.ws (y.ws.length/2)=true)(b:iW y.stop y.l=true)(h5:jo y.l y.cf=true):iI y=true:=by
 unfold iI
 have h1:pN y.i9 y.p9=true:=by unfold pN bt;simp;omega
 simp[bV,jO,a,h1,hf,hw,b,h5]
def JD(x:rz):List gM:=(x.surfs.take 5).map oh
def om(x:rz):List gM:=if(JD x).length=0 then[⟨jB 0 10000000,[]⟩]else JD x
def Do(l:List gM)(i:Nat):Int:=match l[i]? with
 |some y=>y.s.tx
 |none=>0
def zT(x:rz):Nat:=(x.stop% ((om x).length:Int)).toNat
def zU(x:rz):List gM:=if kU (om x) (zT x)=3 then(om x).set (zT x) ⟨jB 0 (Do (om x) (zT x)),[]⟩else om x
def Dp(x:rz):List gM:=zU x++[⟨jB (1000*x.t7) 0,[]⟩]
def SD(x:rz)(w:World)(e:Ending)(w':World):Prop:=
 ∃y f v s k,e=.returned (jG y f v s k)/\mj (fun b=>w.heap.size<=b/\b<w'.heap.size) w' y f v s k/\iI y=true/\y.l=Dp x/\y.i9=uP x/\y.p9=100000*(1+x.p9)/\xV y.ws (y.ws.length/2)/\Below w w w'
def Fe{fn:Func}{p:Tmp}{tmps:Array Value}{w:World}{g:Nat}{x:gR}{f v s k:iJ}(h:fn.results=#[.cell p 38])(a:tmps.getD p undef=.pointer (J g))(b:hU w g 38 x f v s k):
 (results fn tmps).run prog w=.ok (jG x f v s k) w:=
 results_cell_row h tmps w g 38 _ (0,0) _ a b underlying38 rfl Tryz.infoLens
def Nv{P:Program}{c:Oper}{a:Act}{y:World}{b:Nat}{x:rz}{s f v k:iJ}{d:TypeDesc}(h:oU y b x s f v k)(i:P.underlying 28=some d)(e:d.isRow=true)(hi:(P.info? 28).map (·.size)=some 9)(z:Operand)(g:c.op=.load 28 z)
 (j:a.eval z=.pointer (J b)):(execOp a.eval c).run P y=.ok (.value (EW x s f v k)) y:=by
 unfold execOp;simp only[g,j,Instr.loadAt,Instr.sureAddr,bR,cT,bU,run_loadVar_mid y b 0 28 (lI x s f v k) d h.range i e hi];rfl
def rB{ops:Array Oper}{Q:Exit->Act->World->Prop}{B i m:Nat}{c:List Nat}{e:Oper}{a:Array Bool}{d:Act}{w:World}(hi:ops.toList[i]? =some e)
 (hw:Region.wanted e (yielded ops d.tmps)=true){b:Nat}{x:rz}{s f v k:iJ}(h:∀y,Below B w y->oU y b x s f v k)(z:Operand)(j:e.op=.load 28 z)
 (l:d.eval z=.pointer (J b))(g:Ec B prog ops Q c m (a.setIfInBounds i true) (d.put e.dst (EW x s f v k)) w):Ec B prog ops Q (i::c) m a d w:=
 jW hi hw (fun y n=>Nv (h y n) underlying28 rfl Tryz.infoDrL z j l) g
def zO(x:gR)(a:Int):List gM:=if a<0 then x.l else match x.cf[a.toNat]? with
 |some c=>(tu x.l c.zs (c.zs.length/3)).getD x.l
 |none=>x.l
def TR(x:gR)(a:Int):gR:={x with l:=zO x a,cf:=[]}
def Ic(D:Nat->Prop)(w:World)(x:gR)(a:Int)(e:Ending)(w':World):Prop:=
 ∃f v s k,e=.returned (.tuple #[jG (TR x a) f v s k,oZ])/\mj (fun b=>D b\/(w.heap.size<=b/\b<w'.heap.size)) w' (TR x a) f v s k/\Below w w w'
def Jy{x:gR}{a:Int}(h:a<0):TR x a={x with cf:=[]}:=by unfold TR zO;rw[aq h]
def Jz{x:gR}{i:Nat}{c:jd}(d:iI x=true)(h:x.cf[i]? =some c):∃l',tu x.l c.zs (c.zs.length/3)=some l'/\c.zs.length/3<=12:=by
 have h5:jO x 5=true:=an.1 d 5 (by decide);have b:jo x.l x.cf=true:=h5;unfold jo at b;simp only[am]at b;have a:lr x.l c=true:=an.1 b.1.1 c (aL h);unfold lr at a;split at a
 .cases a
 .rename_i l' hl'
  exact⟨l',hl',by simpa using a⟩
def KQ(x:gR)(f v s k:iJ)(w:World)(D:Nat->Prop)(Q:∀b,D b->b<w.heap.size)(d:Int)(t:mj D w x f v s k)(S:iI x=true)(h1: -1<=d)(h2:d<0):
 Calls prog 51 #[jG x f v s k,d] w (Ic D w x d):=by
 have a0:x.cf.length=k.n:=t.at'.cf.1;have X:=O t;have W:=O S;have B:=O (t.at'.kept (gN.refl _ _) Q:iP (fun b=>b<w.heap.size) w x f v s k);clear t S;obtain⟨K:HQ _,E2:HQ _⟩:=iN w (.cells (iw x f v s k).toArray 38) (.cells #[ik,oZ,oZ,oZ,oZ,oN,oN,oN,oN] 38);have j:=O (iH (w:=w) (.cells (iw x f v s k).toArray 38) (.cells #[ik,oZ,oZ,oZ,oZ,oN,oN,oN,oN] 38));unfold jG;go_enter func51,ntmps51;go_upto_region 1 with fail;refine gI (fun g=>hU g w 38 x f v s k/\g.heap[w.heap.size+1]? =some (.cells #[ik,oZ,oZ,oZ,oZ,oN,oN,oN,oN] 38 (0,0))/\Below w w g) ⟨K,E2,j⟩ ?_;clear K E2 j;rintro w1 ⟨C,m,a⟩;have q:=TK m
 have R:w.heap.size<w1.heap.size:=by omega
 have H:=O C;have M:=O m;have j:=O a;clear C m a
 have F:bt d (-1) ((k.n:Int)-1)=true:=by unfold bt;simp;omega
 have N:=O F;clear F;have a1:k.n<=1000000:=B.kn
 go_upto_if 19 with(first
  |(refine it H rfl (.tmp 2) rfl rfl ?_)
  |((with_reducible refine(sw x f v s k _ (B.out.go j.out)).mono ?_);rintro e w2 ⟨o,a⟩;rw[W]at o;subst o;have z:=O (I j a);have l:=O (H.go a);have u:=O ((a.block _ q).trans M);obtain⟨_,_,_,_,_,_,_,c7,P⟩:=l.cells;have i:=ab q a.size;clear a)
  |((with_reducible refine(ix d (-1) _ _).mono ?_);rintro e w3 ⟨o,a⟩;rw[N]at o;subst o;have A:=O (I z a);have c:=O (l.go a);have y:=O ((a.block _ i).trans u);clear a))
 have a3:¬(0<=d):=by omega
 have P:=c.cells.2.2.2.2.2.2.2.2;have f8:=c.free 8;have r:=c.lt;go_upto_region 8 with fail;refine gI (fun g=>hU g w 38 {x with cf:=[]} f v s ⟨none,0,0⟩/\g.heap[w.heap.size+1]? =some (.cells #[ik,oZ,oZ,oZ,oZ,oN,oN,oN,oN] 38 (0,0))/\Below w w g) ⟨gG c 8 _,gF y ⟨w.heap.size,8,none⟩ (by simp) _,A.setCell (p:=⟨w.heap.size,8,none⟩) (aa _) _⟩ ?_;clear H M j z l u A c y c7 P f8 i R q r;rintro w4 ⟨L:HQ _,H24:HQ _,Hb4:HQ _⟩;have a2:=TK H24
 go_wp2_with(first
  |(refine it L rfl (.tmp 2) rfl rfl ?_)
  |(refine ja {x with cf:=[]} f v s ⟨none,0,0⟩ H24 rfl rfl (.tmp 4) (.tmp 34) rfl rfl rfl ?_;intro w6 (T:HQ _) (He6:HQ _);clear H24))
 refine ar (vW rfl rfl rfl T) rfl ?_
 have E:Below w w w6:=by rw[He6];exact ig (bY _) _ _ Hb4
 refine⟨f,v,s,⟨none,0,0⟩,by rw[Jy h2];rfl,?_,E⟩;rw[Jy h2];exact(X.go E Q (fun b h=>VR h)).bare
def KR(x:gR)(f v s k:iJ)(w:World)(D:Nat->Prop)(hD:∀b,D b->b<w.heap.size)(ci:Int)(hx:mj D w x f v s k)(hv:iI x=true)(h1:0<=ci)(h2:ci<(x.cf.length:Int)):
 Calls prog 51 #[jG x f v s k,ci] w (Ic D w x ci):=by
 have f3:x.cf.length=k.n:=hx.at'.cf.1;obtain⟨i,rfl⟩:∃i:Nat,ci=(i:Int):=⟨ci.toNat,by omega⟩
 have d6:i<k.n:=by omega
 obtain⟨q,B,y,g9,ek,d7,a7,⟨ya,yn,yc,rfl,a8,g3,g8,g2⟩,e4⟩:=hx.at'.cf.at d6;have f1:=Jz hv a7;obtain⟨l',z,a9⟩:=f1
 have P:TR x (i:Int)={x with l:=l',cf:=[]}:=by
  unfold TR zO;rw[aj (by omega),aI,a7];simp only[z,Option.getD_some]
 have W:yn=y.zs.length/3:=mU a8;rw[<- W]at z;have c0:=O z;have L:=O P;have f0:=O (a8.ir hD);have K1:=O (e4 1 _ rfl);have c2:=O (show l'.length=s.n from(zx z).trans hx.at'.l.1);clear z P a8 e4 a7 g2 W a9;obtain⟨ka,kn,kc⟩:=k;obtain⟨sa,sn,sc⟩:=s;simp only at ek f3 d6 c2;subst ek;have Hx:=O hx;have Hv:=O hv;have M:=O (hx.at'.kept (gN.refl _ _) hD:iP (fun b=>b<w.heap.size) w x f v ⟨sa,sn,sc⟩ ⟨some ⟨q,B,none⟩,kn,kc⟩);clear hx hv;obtain⟨e1,e2⟩:=iN w (.cells (iw x f v ⟨sa,sn,sc⟩ ⟨some ⟨q,B,none⟩,kn,kc⟩).toArray 38) (.cells #[ik,oZ,oZ,oZ,oZ,oN,oN,oN,oN] 38);have X:=O (iH (w:=w) (.cells (iw x f v ⟨sa,sn,sc⟩ ⟨some ⟨q,B,none⟩,kn,kc⟩).toArray 38) (.cells #[ik,oZ,oZ,oZ,oZ,oN,oN,oN,oN] 38));have E1:=O e1;have E2:=O e2;clear e1 e2;unfold jG;go_enter func51,ntmps51;go_upto_region 1 with fail;refine gI (fun d=>hU d w 38 x f v ⟨sa,sn,sc⟩ ⟨some ⟨q,B,none⟩,kn,kc⟩/\d.heap[w.heap.size+1]? =some (.cells #[ik,oZ,oZ,oZ,oZ,oN,oN,oN,oN] 38 (0,0))/\Below w w d) ⟨E1,E2,X⟩ ?_;clear E1 E2 X;rintro w1 ⟨c9,a1,c⟩;have a5:=TK a1
 have f4:w.heap.size<w1.heap.size:=by omega
 have H1:=O c9;have H2:=O a1;have X:=O c;clear c9 a1 c
 have d5:bt (i:Int) (-1) ((kn:Int)-1)=true:=by unfold bt;simp;omega
 have e7:=O d5;clear d5;have g5:kn<=1000000:=M.kn
 go_upto_if 19 with(first
  |(refine it H1 rfl (.tmp 2) rfl rfl ?_)
  |((with_reducible refine(sw x f v ⟨sa,sn,sc⟩ ⟨some ⟨q,B,none⟩,kn,kc⟩ _ (M.out.go X.out)).mono ?_);rintro e w2 ⟨he,c⟩;rw[Hv]at he;subst he;have b7:=O (I X c);have a0:=O (H1.go c);have b3:=O ((c.block _ a5).trans H2);obtain⟨_,_,_,_,_,_,_,c7,c8⟩:=a0.cells;have S:=ab a5 c.size;clear c)
  |((with_reducible refine(ix (i:Int) (-1) _ _).mono ?_);rintro e w3 ⟨he,c⟩;rw[e7]at he;subst he;have j:=O (I b7 c);have F:=O (a0.go c);have H:=O ((c.block _ S).trans b3);clear c))
 have g7:0<=(i:Int):=by omega
 have e0:sn<=1000000:=M.sn;obtain⟨_,_,_,_,_,_,_,c5,c6⟩:=F.cells;have Q:=F.lt;have g4:=TK H;have b0:q<w3.heap.size:=ab (hD _ d7) j.size;have k1:=(j.cell (p:=⟨q,B+i*2+1,none⟩) (hD _ d7)).trans K1;clear c7 c8;go_upto_region 6 with fail;refine ic 12 [11] [] [(0,true),(1,true),(2,true),(3,true),(4,true),(5,true),(6,true),(7,true),(8,false),(9,true),(10,true),(11,true)] (by kernel_rfl) (by kernel_rfl) ⟨by simp,by simp,fun _ h=>by cases h⟩ (fun _ _ _ _ _ h=>h) (fun _ _ o _ _ h=>by cases o<;>exact h) ?_
 iterate 8
  refine gZ (v:=?_) ?_ ?_;rotate_left
  .intro y hy
   have y7:=(hy.cell (p:=⟨w.heap.size,7,none⟩) Q).trans c5;have y8:=(hy.cell (p:=⟨w.heap.size,8,none⟩) Q).trans c6;have y1:=(hy.cell (p:=⟨q,B+i*2+1,none⟩) b0).trans k1;go_simp;with_reducible rfl
  try simp only[V]
 clear c5 c6 k1;refine iK (fun xa e3 K hK=>?_);go_simp;have A:=gJ (k:=1) e3;have a6:=j.trans (A.mono j.size);refine(wW x.l y.zs sa ya sn sc yn yc xa ((M.go a6).l) e0 (f0.go a6) g3).mono ?_;rintro e w5 (⟨f9,_⟩|⟨a,v5,R,rfl,ho,a3⟩)
 .exact absurd (f9.symm.trans c0) (by simp)
 obtain rfl:a=l':=by have:=R.symm.trans c0;simpa using this
 obtain⟨C,E,rfl,f2⟩:=ho.r.sl;refine hK _ _ a3 ?_;clear hK K;(try simp only[V]);have m:=O (A.trans (a3.mono A.size));have Ho:=O ho;have N:=O A.size;clear ho e3 A a6 a3 R f2
 iterate 2
  refine gZ (v:=?_) ?_ ?_;rotate_left
  .intro y hy
   skip;go_simp;with_reducible rfl
  try simp only[V]
 iterate 1
  refine iy (v:=?_) ?_ ?_;rotate_left
  .intro y
   go_simp;with_reducible rfl
  try simp only[V]
 refine jV rfl (fun w6 a4=>?_);(try simp only[V]);have g:=m.trans (a4.mono m.size);have t:=F.go g;have b4:=O ((g.block _ (TK H)).trans H);have c3:=O (Ho.go a4);have b8:=O (j.trans (g.mono j.size));have c7:=t.cells.2.2.2.2.2.2.2.1;have f7:=t.free 7;have f5:=t.lt;have b1:=O t;clear g t a4 Ho m;go_upto_region 7 with fail;refine gI (fun d=>hU d w 38 {x with l:=a} f v ⟨C,a.length,E⟩ ⟨some ⟨q,B,none⟩,kn,kc⟩/\d.heap[w.heap.size+1]? =some (.cells #[ik,oZ,oZ,oZ,oZ,oN,oN,oN,oN] 38 (0,0))/\oJ xa d (.slice C a.length E) a/\Below w w d) ⟨gG b1 7 _,gF b4 ⟨w.heap.size,7,none⟩ (by simp) _,c3.keep ((gK w [_] 7 w6).mono (fun b h=>by have:=h.1;have:=N.out;omega)) (by simp),b8.setCell (p:=⟨w.heap.size,7,none⟩) (aa _) _⟩ ?_;clear b1 b4 c3 b8 c7 f7 f5 H1 H2 X b7 a0 b3 j F H S f4 a5;rintro w7 ⟨u,d1,d8,d2⟩;have c8:=u.cells.2.2.2.2.2.2.2.2;have f8:=u.free 8;have f6:=u.lt;have b2:=O u;have b5:=O d1;have c4:=O d8;have b9:=O d2;clear u d1 d8 d2;go_upto_region 8 with fail;refine gI (fun d=>hU d w 38 {x with l:=a,cf:=[]} f v ⟨C,a.length,E⟩ ⟨none,0,0⟩/\d.heap[w.heap.size+1]? =some (.cells #[ik,oZ,oZ,oZ,oZ,oN,oN,oN,oN] 38 (0,0))/\oJ xa d (.slice C a.length E) a/\Below w w d) ⟨gG b2 8 _,gF b5 ⟨w.heap.size,8,none⟩ (by simp) _,c4.keep ((gK w [_] 8 w7).mono (fun b h=>by have:=h.1;have:=N.out;omega)) (by simp),b9.setCell (p:=⟨w.heap.size,8,none⟩) (aa _) _⟩ ?_;clear b2 b5 c4 b9 c8 f8 f6;rintro w8 ⟨d0,a2,d9,d3⟩;have g6:=TK a2;have e5:=O d0;have b6:=O a2;have e8:=O d9;have e6:=O d3;clear d0 a2 d9 d3
 go_wp2_with(first
  |(refine it e5 rfl (.tmp 2) rfl rfl ?_)
  |(refine ja {x with l:=a,cf:=[]} f v ⟨C,a.length,E⟩ ⟨none,0,0⟩ b6 rfl rfl (.tmp 4) (.tmp 34) rfl rfl rfl ?_;intro w9 h9 e9;have H9:=O h9;have c1:=O e9;clear h9 e9 b6))
 refine ar (vW rfl rfl rfl H9) rfl ?_
 have d4:Below w w w9:=by rw[c1];exact ig (bY _) _ _ e6
 have g0:oJ xa w9 (.slice C a.length E) a:=by
  rw[c1];exact e8.keep ((gK (w+1) _ 0 w8).mono (fun b h=>by have:=h.1;have:=N.out;omega)) (by rw[im];exact aa _)
 have g1:w.heap.size<=xa.heap.size:=by have:=N.out;omega
 refine⟨f,v,⟨C,a.length,E⟩,⟨none,0,0⟩,by rw[L];rfl,?_,d4⟩;rw[L];exact mj.newl (Hx.at'.kept (T:=D) ((gE d4).mono hD) (fun b h=>h)) (fun b h=>ab (hD b h) g1) g0 (by rw[c2];exact e0) (fun b h=>VR h) (fun b h1 h2=>VS ⟨by omega,h2⟩)
def KS(x:gR)(f v s k:iJ)(w:World)(D:Nat->Prop)(c:∀b,D b->b<w.heap.size)(a:Int)(e:mj D w x f v s k)(d:iI x=true)(h1: -1<=a)(h2:a<(x.cf.length:Int)):
 Calls prog 51 #[jG x f v s k,a] w (Ic D w x a):=by
 by_cases h:a<0
 .exact KQ x f v s k w D c a e d h1 h
 .exact KR x f v s k w D c a e d (by omega) h2
def Bk(w:World):
 Calls prog 25 #[] w (fun e w'=>∃a c,e=.returned (.slice a 3 c)/\RR EQ 10 (fun b=>w.heap.size<=b/\b<w'.heap.size) w' a 3 c np/\Below w w w'):=by
 go_enter func25,ntmps25;go_wp2;go_ret;refine⟨_,_,rfl,?_,gY (TH _ _)⟩;refine⟨rfl,aa _,fun _=>⟨w.heap.size,0,rfl,⟨aa _,by simp⟩,fun i x d=>?_⟩⟩;have g:=TL w (.cells (AW.cells++D8.cells++Cg.cells).toArray 139)
 match i,d with
 |0,d=>
  obtain rfl:AW=x:=by simpa[np]using d
  exact⟨_,⟨rfl,by decide⟩,fun j v f=>by
   have k:j<10:=(TG.1 f).1
   have e:(AW.cells++D8.cells++Cg.cells)[j]? =some v:=by rw[aC,aF k];exact f
   have h:=VV g j;rw[bo,e]at h;rw[show 0+0*10+j=j by omega]
   exact h⟩
 |1,d=>
  obtain rfl:D8=x:=by simpa[np]using d
  exact⟨_,⟨rfl,by decide⟩,fun j v f=>(VV g (10+j)).trans (by have k:j<10:=(TG.1 f).1;rw[bo,aC,aY (by show 10<=10+j;omega),aF (by show 10+j-10<10;omega)];rw[show 10+j-AW.cells.length=j by show 10+j-10=j;omega];exact f)⟩
 |2,d=>
  obtain rfl:Cg=x:=by simpa[np]using d
  exact⟨_,⟨rfl,by decide⟩,fun j v f=>(VV g (20+j)).trans (by have k:j<10:=(TG.1 f).1;rw[bo,aC,aY (by show 10<=20+j;omega),aY (by show 10<=20+j-10;omega)];rw[show 20+j-AW.cells.length-D8.cells.length=j by show 20+j-10-10=j;omega];exact f)⟩
 |i+3,d=>simp[np]at d
def qF(l:List gM):Prop:=∀y∈l,∃k,k<5/\y.s.e9=kM k
def Ck:Ch np where
 ok:=fun g d=>(EP d).1
 ne:=by
  intro i j x y a b c;have hi:i<3:=(TG.1 a).1
  match i,hi,j,c with
  |1,_,0,_=>cases a;cases b;decide+kernel
  |2,_,0,_=>cases a;cases b;decide+kernel
  |2,_,1,_=>cases a;cases b;decide+kernel
 len:=by decide
def xj{ws:List Int}(hw:xV ws (ws.length/2)){g:jQ}(a:g∈np):∀j,j<ws.length/2->g.lo<=ws.getD (j*2) 0/\ws.getD (j*2) 0<=g.hi/\g.Far (ws.getD (j*2) 0)/\ ∃A S,Sx g (ws.getD (j*2) 0) A S:=by
 intro j b;obtain⟨h1,h2⟩:=hw j b;obtain⟨_,c,d⟩:=EP a;exact⟨by omega,by omega,KJ a h1 h2,KL a h1 h2⟩
def KT{ws:List Int}{y:gM}{l:List gM}{i:Nat}(hw:xV ws (ws.length/2))(a:∃k,k<5/\y.s.e9=kM k)(h1:zN l i y=false)(h2:y.s.e9.toList.isEmpty=false):Ia np ws y:=by
 obtain⟨k,b,e⟩:=a
 match k,b,e with
 |0,_,e=>rw[e]at h2;exact absurd h2 (by decide+kernel)
 |1,_,e=>exact⟨0,AW,rfl,e.symm,xj hw (by simp[np])⟩
 |2,_,e=>exact⟨1,D8,rfl,e.symm,xj hw (by simp[np])⟩
 |3,_,e=>
  unfold zN at h1;rw[e,show((kM 3).toList==Dm)=true from by decide+kernel]at h1;simp at h1
 |4,_,e=>exact⟨2,Cg,rfl,e.symm,xj hw (by simp[np])⟩
def PH(m:Nat):pB (List Int):=fun S w zs cs=>∃a c,cs=[.slice a m c]/\IRp S w 1 a m c zs/\(a=none->c=0)/\xg zs
def EY(m:Nat):kR 1 (PH m) where
 len:=by rintro S w x cs ⟨a,c,rfl,_⟩;rfl
 kept:=by rintro S T w w' x cs ⟨a,c,e,h,r⟩ d f;exact⟨a,c,e,h.kept d f,r⟩
 one:=by rintro S w x cs ⟨a,c,rfl,_⟩ v b;simp only[aS,bi,cR]at b;obtain rfl:=b;rfl
def yK(x:gR)(f v s k p:iJ):List Value:=[.string x.nm,.int .i64 x.i9,.int .i64 x.p9,.int .i64 x.stop,.int .i64 x.i4,.slice f.a f.n f.c,.slice v.a v.n v.c,.slice s.a s.n s.c,.slice k.a k.n k.c,.slice p.a p.n p.c]
def xk(w:World)(g:Nat)(x:gR)(f v s k p:iJ):Prop:=w.heap[g]? =some (.cells (yK x f v s k p).toArray 42 (0,0))
def If(x:gR)(f v s k p:iJ):Value:=.agg #[x.nm,x.i9,x.p9,x.stop,x.i4,Z f.a f.n f.c,Z v.a v.n v.c,Z s.a s.n s.c,Z k.a k.n k.c,Z p.a p.n p.c]
def Tryz.infoOpt:(prog.info? 42).map (·.size)=some 10:=by kernel_rfl
def Tryz.infoInts:(prog.info? 133).map (fun i=>(i.zero,i.size,i.bytes))=some (some (.slice none 0 0),1,24):=by kernel_rfl
def rA{ops:Array Oper}{b:List Oper}{e:Oper}{d:Act}{w:World}{Q:Exit->Act->World->Prop}{g:Nat}{cs:Array Value}(x:gR)(f v s k p:iJ)(h:w.heap[g]? =some (.cells cs 42 (0,0)))(i:cs.size=10)(j:e.guard=none)(y z:Operand)(m:e.op=.store 42 y z)
 (o:d.eval y=.pointer (J g))(q:d.eval z=.agg #[x.nm,x.i9,x.p9,x.stop,x.i4,Z f.a f.n f.c,Z v.a v.n v.c,Z s.a s.n s.c,Z k.a k.n k.c,Z p.a p.n p.c])
 (l:∀w',xk w' g x f v s k p->w'=w.setCells g 0 (yK x f v s k p)->wpList prog ops Q b (d.put e.dst undef) w'):wpList prog ops Q (e::b) d w:=
 wpList_store_mid j 42 y z m g 0 _ o q (tF h i) Tryz.infoOpt (by simp[Value.oneCell']) (l _ (tE h i) rfl)
def xk.range{w:World}{g:Nat}{x:gR}{f v s k p:iJ}(h:xk w g x f v s k p):w.rangeAt g 0 (yK x f v s k p):=xK h
def xk.lt{w:World}{g:Nat}{x:gR}{f v s k p:iJ}(h:xk w g x f v s k p):g<w.heap.size:=TK h
def xk.go{w w':World}{g:Nat}{x:gR}{f v s k p:iJ}(h:xk w g x f v s k p)(a:Below w w w'):xk w' g x f v s k p:=(a.block g h.lt).trans h
def ww{ops:Array Oper}{b:List Oper}{d:Oper}{e:Act}{w:World}{Q:Exit->Act->World->Prop}{g:Nat}{x:gR}{f v s k p:iJ}(h:xk w g x f v s k p)(i:d.guard=none)(y:Operand)(l:d.op=.load 42 y)
 (m:e.eval y=.pointer (J g))(j:wpList prog ops Q b (e.put d.dst (.agg #[x.nm,x.i9,x.p9,x.stop,x.i4,Z f.a f.n f.c,Z v.a v.n v.c,Z s.a s.n s.c,Z k.a k.n k.c,Z p.a p.n p.c])) w):wpList prog ops Q (d::b) e w:=
 wpList_load_mid i 42 y l g 0 m (yK x f v s k p) _ h.range underlying42 rfl Tryz.infoOpt j
def EZ{fn:Func}{p u:Tmp}{tmps:Array Value}{w:World}{g:Nat}{x:gR}{f v s k q:iJ}{e:Value}(h:fn.results=#[.cell p 42,.tmp u])(a:tmps.getD p undef=.pointer (J g))(c:tmps.getD u undef=e)(b:xk w g x f v s k q):
 (results fn tmps).run prog w=.ok (.tuple #[If x f v s k q,e]) w:=by
 rw[results_cell_tmp h,a,c];simp only[asAddr,cT,bU];rw[run_loadVar_row w g 42 42 _ (0,0) _ b underlying42 rfl Tryz.infoOpt];rfl
def PI{fn:Func}{p:Tmp}{tmps:Array Value}{w:World}{g:Nat}{x:gR}{f v s k q:iJ}(h:fn.results=#[.cell p 42])(a:tmps.getD p undef=.pointer (J g))(b:xk w g x f v s k q):
 (results fn tmps).run prog w=.ok (If x f v s k q) w:=
 results_cell_row h tmps w g 42 _ (0,0) _ a b underlying42 rfl Tryz.infoOpt
def qH(k:Nat):∃j,j<5/\kM k=kM j:=match k with
 |0=>⟨0,by omega,rfl⟩
 |1=>⟨1,by omega,rfl⟩
 |2=>⟨2,by omega,rfl⟩
 |3=>⟨3,by omega,rfl⟩
 |_+4=>⟨4,by omega,rfl⟩
def Ih(x:tz):∃k,k<5/\(oh x).s.e9=kM k:=by
 unfold oh
 repeat' split
 .exact qH _
 .exact qH _
 .exact⟨0,by omega,rfl⟩
 .exact⟨0,by omega,rfl⟩
 .exact qH _
 .exact qH _
 .exact qH _
def tW(c t:Int):∃k,k<5/\(jB c t).e9=kM k:=⟨0,by omega,rfl⟩
def Ii(x:rz):qF (Dp x):=by
 have h0:qF (om x):=by
  unfold om;split
  .intro y a;obtain rfl:=aK.1 a;exact tW _ _
  .intro y a
   obtain⟨z,_,rfl⟩:=cP.1 a;exact Ih z
 have h1:qF (zU x):=by
  unfold zU;split
  .intro y a
   obtain a|rfl:=bH a
   .exact h0 y a
   .exact tW _ _
  .exact h0
 intro y a
 obtain a|a:=bj.1 a
 .exact h1 y a
 .obtain rfl:=aK.1 a;exact tW _ _
def Cn(s:gW){p:Int}(v:Int)(h1:1<=p)(h2:p<=17):(s.put p v).e9=s.e9/\(s.put p v).kind=s.kind/\(s.put p v).order=s.order/\(p≠9->(s.put p v).tx=s.tx):=by
 obtain rfl|rfl|rfl|rfl|rfl|rfl|rfl|rfl|rfl|rfl|rfl|rfl|rfl|rfl|rfl|rfl|rfl:=oL h1 h2
 all_goals first|exact⟨rfl,rfl,rfl,fun _=>rfl⟩|exact⟨rfl,rfl,rfl,fun h=>absurd rfl h⟩
def JE{l:List gM}{i p v:Int}(h:nT l i p v=true):∃(k:Nat)(y:gM),i=(k:Int)/\l[k]? =some y/\qy l i p v=l.set k ⟨y.s.put p v,y.zs⟩/\tr ⟨y.s.put p v,y.zs⟩=true/\(p≠9\/k+1<l.length)/\1<=p/\p<=17:=by
 have c:=h;unfold nT at c;simp only[am]at c;obtain⟨b,a⟩:=c;obtain⟨k,y,rfl,g,d,f,e⟩:=MR b;rw[aI,d]at a;simp only[aD]at a;refine⟨k,y,rfl,d,?_,?_,?_,oM e⟩
 .unfold qy
  rw[aI,d];simp only;rw[aq h]
 .unfold mw at a
  split at a
  .split at a
   .assumption
   .cases a
  .contradiction
 .unfold qx at b
  simp only[am,dN,fk,aD]at b
  obtain h9|h9:=b.2
  .exact VR h9
  .exact VS (by omega)
def Ij{l:List gM}(h:qF l){i p v:Int}(d:nT l i p v=true):qF (qy l i p v):=by
 obtain⟨k,y,rfl,f,e,_,_,g,m⟩:=JE d;rw[e];intro z a
 obtain a|rfl:=bH a
 .exact h z a
 .obtain⟨j,c,b⟩:=h y (aL f)
  exact⟨j,c,(Cn y.s v g m).1.trans b⟩
def KX{stop:Int}{l:List gM}{i p v:Int}(h:iW stop l=true)(q:nT l i p v=true):iW stop (qy l i p v)=true:=by
 obtain⟨k,y,rfl,d,e,m,j,u,w⟩:=JE q;obtain⟨k1,o,r,t⟩:=Cn y.s v u w;have x:k<l.length:=(TG.1 d).1;rw[e];unfold iW at h⊢;simp only[am]at h⊢;obtain⟨⟨⟨⟨h1,h2⟩,h3⟩,b⟩,h5⟩:=h;rw[dL];refine⟨⟨⟨⟨h1,h2⟩,?_⟩,?_⟩,?_⟩
 .unfold uM at h3⊢
  rw[di,du]at h3⊢;intro z f
  obtain f|rfl:=bH f
  .exact h3 z f
  .rw[m];decide
 .unfold pe at b⊢
  rw[dL,cF];by_cases a:k=l.length-1
  .rw[aq a]
   rw[<- a,d]at b;rw[aq (by omega)];simp only at b⊢
   have n:p≠9:=by
    obtain h|h:=j
    .exact h
    .omega
   unfold pM at b⊢;rw[k1,o,r,t n];exact b
  .rw[aj a]
   exact b
 .have g:kU (l.set k ⟨y.s.put p v,y.zs⟩) stop=kU l stop:=by
   unfold kU;rw[cF];by_cases c:k=stop.toNat
   .rw[aq c,aq (by omega),<- c,d]
    exact o
   .rw[aj c]
  rw[g];exact h5
def Ff{l:List gM}{zs:List Int}{n:Nat}{l':List gM}(h:tu l zs (n+1)=some l'):∃l0,tu l zs n=some l0/\nT l0 (zs.getD (n*3) 0) (zs.getD (n*3+1) 0) (zs.getD (n*3+2) 0)=true/\l'=qy l0 (zs.getD (n*3) 0) (zs.getD (n*3+1) 0) (zs.getD (n*3+2) 0):=by
 rw[tu]at h
 cases hc:tu l zs n with
 |none=>rw[hc]at h;cases h
 |some l0=>
  rw[hc]at h;simp only[aO]at h;split at h
  .rename_i hh
   cases h;exact⟨l0,rfl,hh.2,rfl⟩
  .cases h
def Co{l:List gM}{zs:List Int}(h:qF l):∀{n:Nat}{l':List gM},tu l zs n=some l'->qF l'
 |0,l',e=>by cases e;exact h
 |n+1,l',e=>by
  obtain⟨l0,e0,a,rfl⟩:=Ff e;exact Ij (Co h e0) a
def Fg{stop:Int}{l:List gM}{zs:List Int}(h:iW stop l=true):∀{n:Nat}{l':List gM},tu l zs n=some l'->iW stop l'=true
 |0,l',e=>by cases e;exact h
 |n+1,l',e=>by
  obtain⟨l0,e0,a,rfl⟩:=Ff e;exact KX (Fg h e0) a
def zV{x:gR}{a:Int}(e:iI x=true)(h2:a<(x.cf.length:Int)):zO x a=x.l\/ ∃(zs:List Int)(n:Nat),tu x.l zs n=some (zO x a):=by
 by_cases h:a<0
 .left;unfold zO;rw[aq h]
 .right
  obtain⟨i,rfl⟩:∃i:Nat,a=(i:Int):=⟨a.toNat,by omega⟩;obtain⟨c,b⟩:∃c,x.cf[i]? =some c:=⟨_,ae (by omega)⟩;obtain⟨l',d,_⟩:=Jz e b;refine⟨c.zs,c.zs.length/3,?_⟩;unfold zO;rw[aj h,aI,b];simp only[d,Option.getD_some]
def KY{x:gR}{a:Int}(h:qF x.l)(b:iI x=true)(h2:a<(x.cf.length:Int)):qF (zO x a):=by
 obtain e|⟨zs,n,e⟩:=zV b h2
 .rw[e];exact h
 .exact Co h e
def KZ{x:gR}{b:Int}(f:iI x=true)(h2:b<(x.cf.length:Int)):iI (TR x b)=true:=by
 have a:∀j,j<6->jO x j=true:=fun j c=>an.1 f j (aJ.2 c)
 have g:iW x.stop (zO x b)=true:=by
  obtain e|⟨zs,n,e⟩:=zV f h2
  .rw[e];exact a 4 (by omega)
  .exact Fg (a 4 (by omega)) e
 refine an.2 fun j c=>?_
 have d:=aJ.1 c
 match j,d with
 |0,_=>exact a 0 (by omega)
 |1,_=>exact a 1 (by omega)
 |2,_=>exact a 2 (by omega)
 |3,_=>exact a 3 (by omega)
 |4,_=>exact g
 |5,_=>rfl
def PJ(D:Nat->Prop)(w:World)(x:gR)(g:Int)(e:Ending)(w':World):Prop:=
 ∃f v s k p d,e=.returned (.tuple #[If (TR x g) f v s k p,oZ])/\mj (fun b=>D b\/(w.heap.size<=b/\b<w'.heap.size)) w' (TR x g) f v s k/\RR (PH v.n) 1 (fun b=>w.heap.size<=b/\b<w'.heap.size) w' p.a p.n p.c d/\d.length=(TR x g).l.length/\Below w w w'
def PK{x:gR}(h:iI x=true):1<=x.ws.length/2/\x.ws.length/2<=5:=by
 have h3:jO x 3=true:=an.1 h 3 (by decide);have a:VY x.i4 x.ws (x.ws.length/2)=true:=h3;unfold VY at a;simp only[am]at a;have:=a.1.2;unfold bt at this;simp at this;omega
def Np(x:gR)(f v s k:iJ)(w:World)(D:Nat->Prop)(W:∀b,D b->b<w.heap.size)(H:Int)(ga:Option Addr)(gc:Nat)(hx:mj D w x f v s k)(hv:iI x=true)(h1: -1<=H)(h2:H<(x.cf.length:Int))
 (g0:RR EQ 10 (fun b=>b<w.heap.size) w ga 3 gc np)(g7:xV x.ws (x.ws.length/2))(hgl:qF (zO x H)):
 Calls prog 24 #[jG x f v s k,Z ga 3 gc,H] w (PJ D w x H):=by
 have Hx:=O hx;have Hv:=O hv;have e7:=O g0;have i9:=O g7;have i2:=O hgl;have i4:=O (hx.at'.kept (gN.refl _ _) W:iP (fun b=>b<w.heap.size) w x f v s k);clear hx hv g0 g7 hgl;obtain⟨e1,e2⟩:=iN w (.cells (iw x f v s k).toArray 38) (.cells #[ik,oZ,oZ,oZ,oZ,oN,oN,oN,oN,oN] 42);have g:=O (iH (w:=w) (.cells (iw x f v s k).toArray 38) (.cells #[ik,oZ,oZ,oZ,oZ,oN,oN,oN,oN,oN] 42));have E1:=O e1;have E2:=O e2;clear e1 e2;unfold jG;go_enter func24,ntmps24;go_upto_region 1 with fail;refine gI (fun B=>hU B w 38 x f v s k/\B.heap[w.heap.size+1]? =some (.cells #[ik,oZ,oZ,oZ,oZ,oN,oN,oN,oN,oN] 42 (0,0))/\Below w w B) ⟨E1,E2,g⟩ ?_;clear E1 E2 g;rintro w1 ⟨f3,f5,hb⟩;have H1:=O f3;have H2:=O f5;have g:=O hb;clear f3 f5 hb
 go_wp2_with(refine it H1 rfl (.tmp 3) rfl rfl ?_)
 refine(sw x f v s k _ (i4.go g)).mono ?_;rintro e w2 ⟨he,a8⟩;rw[Hv]at he;subst he;have d8:=O (H1.go a8);have b6:=O ((a8.block _ (TK H2)).trans H2);have b7:=O (I g a8);clear a8 H1 H2 g;go_wp2_with fail;refine(Dl np ga 3 gc _ (e7.go wl b7) Ck).mono ?_;rintro e w3 ⟨rfl,a9⟩;have d9:=O (d8.go a9);have a0:=O ((a9.block _ (TK b6)).trans b6);have a1:=O (I b7 a9);clear a9 d8 b6 b7
 go_wp2_with(refine it d9 rfl (.tmp 3) rfl rfl ?_)
 have g8:=Hx.go (E:=D) a1 W (fun b h=>h);refine(KS x f v s k w3 D (fun b h=>ab (W b h) a1.size) H g8 Hv h1 h2).mono ?_;clear g8;rintro e R ⟨K,v4,s4,M,he,u,o⟩;obtain⟨y,hy⟩:∃y,y=TR x H:=⟨_,rfl⟩;rw[<- hy]at he u;unfold jG at he;subst he
 have d3:y.ws=x.ws:=by rw[hy];rfl
 have g9:y.l=zO x H:=by rw[hy];rfl
 have d1:v4.n=x.ws.length/2:=by rw[<- d3];exact qW u.at'.ws
 have d0:y.l.length=s4.n:=u.at'.l.1;have j9:s4.n<=1000000:=u.at'.sn;have k0:=PK Hv;have c1:=(o.block _ (TK a0)).trans a0;have a2:=O (I a1 o);have f2:=O u;have h7:=O c1;have Hy:=O hy;have j1:=O d3;have j0:=O g9;have f1:=O d0;have d6:=TK c1;have k1:=TK a0;obtain⟨sa,n,N⟩:=s4;obtain⟨P,m,Q⟩:=v4;simp only at d1 d0 j9
 have j8:m<=5:=by omega
 have k9:1<=m:=by omega
 have k7:=O d1;clear o u c1 d9 a0 a1 hy d3 g9 d1 d0 k0;go_upto_region 7 with fail;refine gI (fun B=>hU B R 38 y K ⟨P,m,Q⟩ ⟨sa,n,N⟩ M/\Below R R B) ⟨TL R _,gY (TH _ _)⟩ ?_;rintro d ⟨h5,f7⟩;have C:=O h5;have b8:=O f7;clear h5 f7
 go_upto_region 10 with(refine it C rfl (.tmp 9) rfl rfl ?_)
 refine gI (fun B=>xk B d y K ⟨P,m,Q⟩ ⟨sa,n,N⟩ M ⟨none,0,0⟩/\Below d d B) ⟨TL d _,gY (TH _ _)⟩ ?_;rintro w6 ⟨h6,f8⟩;have S:=O h6;have b9:=O f8;clear h6 f8;have a6:=C.go b9;have k8:=C.lt;have j7:=S.lt;obtain⟨_,_,_,_,_,_,c6,c7,_⟩:=a6.cells;have z:=O (b8.trans (b9.mono b8.size));have d7:=a6.lt;have e0:=O a6;clear a6 C;go_wp2_with fail;refine(Jx m w6 (by omega)).mono ?_;rintro e w7 ⟨ov,qs,rfl,ho,rfl,b0⟩;obtain⟨oa,oc,rfl,q1,q2⟩:=lc ho;have e3:=O (e0.go b0);have e4:=O (S.go b0);have k6:=b8.size;have e8:=O q1;have f0:=O (q2.kept (T:=fun b=>b<w7.heap.size) (gN.refl _ _) (fun b h=>h.2));have a3:=O (z.trans (b0.mono z.size));clear ho b0 q1 q2 c6 c7 e0 S z j7 d7 b9;go_wp2
 go_loopw [12,13] (fun av iv wr=>∃(i:Nat)(za:Option Addr)(zc:Nat)(zs:List Int)(r:iJ)(j:List (List Int)),i<=n/\iv=.int .i64 (i:Int)/\av=.slice za m zc/\IRp (fun b=>b<wr.heap.size) wr 1 za m zc zs/\(za=none->zc=0)/\xg zs/\j.length=i/\jD (PH m) 1 133 (d+1) wr r.v j/\hU wr R 38 y K ⟨P,m,Q⟩ ⟨sa,n,N⟩ M/\xk wr d y K ⟨P,m,Q⟩ ⟨sa,n,N⟩ M r/\Below R R wr) (fun _ iv _=>n-(intOf iv).toNat)
 case atStart=>exact⟨0,oa,oc,_,⟨none,0,0⟩,[],by omega,rfl,rfl,f0,e8,EU m,rfl,jD.nil _ _ _ _ _,e3,e4,a3⟩
 case round=>
  clear e8 f0 e3 e4 a3;obtain⟨i,za,zc,zs,r,j,hi,rfl,rfl,hz,h3,h4,g4,g5,h5,h6,hb⟩:=hrel;obtain⟨_,_,_,_,_,_,_,c7,_⟩:=h5.cells;have k2:=h5.lt;have k5:=h6.lt;have Hz:=O hz;have j2:=O h3;have j3:=O h4;have a5:=O g4;have F:=O g5;have C:=O h5;have S:=O h6;have g:=O hb;clear hz h3 h4 g4 g5 h5 h6 hb;by_cases j6:i<n
  .obtain⟨yi,d2⟩:∃yi,y.l[i]? =some yi:=⟨_,ae (by rw[f1];exact j6)⟩
   have b4:=aL d2;have g1:iP (fun b=>b<wr.heap.size) wr y K ⟨P,m,Q⟩ ⟨sa,n,N⟩ M:=f2.at'.kept ((gE g).mono (fun b h=>by obtain h|h:=h;have:=W b h;omega;exact h.2)) (fun b h=>by have:=g.size;obtain h|h:=h;have:=W b h;omega;have:=h.2;omega);have b2:=e7.go wl (a2.trans (g.mono a2.size))
   have g6:zN y.l i yi=false->yi.s.e9.toList.isEmpty=false->Ia np y.ws yi:=fun q1 q2=>KT (by rw[j1];exact i9) (i2 yi (by rw[<- j0];exact b4)) q1 q2
   have i1:=O (show∀b,wr.heap.size<=b->r.v.ownBlock≠some b from fun b h=>F.fresh h);have a4:=O (Ib y K ⟨P,m,Q⟩ ⟨sa,n,N⟩ M np ga 3 gc i yi za zc zs wr g1 d2 b2 Ck Hz j2 j3 j8 g6);clear d2 b4 g1 b2 g6
   go_wp2_with(refine it C rfl (.tmp 9) rfl rfl ?_)
   refine a4.mono ?_;rintro e X ⟨na,nc,nz,rfl,c5,c3,c4,t⟩;have f6:=C.go t;have a7:=S.go t;have l0:=t.size;have b5:=F.go (EY m) t;have c9:X.cell? ⟨d.heap.size,9,none⟩=some (.slice r.a r.n r.c):=(VV a7 9).trans rfl;have k3:=a7.lt;have b3:PH m (fun b=>d.heap.size+1<=b/\b<X.heap.size/\r.v.ownBlock≠some b) X nz [Z na m nc]:=⟨na,nc,rfl,c5.kept (gN.refl _ _) (fun b h=>⟨by have:=h.1;omega,h.2,F.fresh h.1⟩),c3,c4⟩;have h8:=O f6;have e5:=O a7;have d5:=O b5;have d4:=O b3;have i7:=O c5;have i5:=O c3;have i6:=O c4;have i0:=O (g.trans (t.mono g.size));clear f6 a7 b5 b3 c5 c3 c4 t a4 C S F g c7
   go_wp2_with(refine kA (EY m) underlying40 Tryz.infoInts rfl (by omega) (by omega) rfl (.tmp 62) (.tmp 64) rfl (d+1) X _ j nz [Z na m nc] i a5 rfl d5 rfl rfl d4 (by rw[a5];omega) (by omega) ?_;intro g3 A q g2 o L c8;have i8:=O g2;have e6:=O o;have i3:=O L;have c9:=(((o _ _ (aa _) (TH (d+1) X)).cell (p:=⟨d.heap.size,9,none⟩) (dk _))).trans c9;have f9:q.frozen? ⟨d.heap.size,9,none⟩=false:=(by rw[World.frozen?,(o _ _ (aa _) (TH (d+1) X)).block d (dk _),e5];rfl);clear g2 o L)
   go_roundw
   case rel=>
    have b1:=e6 _ _ (aa _) (TH (d+1) X);have c2:gN (fun b=>b≠d.heap.size) q (q.setCell ⟨d.heap.size,9,none⟩ (.slice (J g3) (i+1) A)):=gK d [_] 9 q
    have h0:(q.setCell ⟨d.heap.size,9,none⟩ (.slice (J g3) (i+1) A)).heap.size=q.heap.size:=by simp
    refine⟨i+1,na,nc,nz,⟨some ⟨g3,0,none⟩,i+1,A⟩,j++[nz],by omega,by go_num,rfl,?_,i5,i6,by rw[al,a5];rfl,?_,?_,?_,?_⟩
    .exact(i7.kept (T:=fun b=>wr.heap.size<=b/\b<q.heap.size) (i3.mono (fun b h=>⟨h.2,i1 b h.1⟩)) (fun b h=>⟨h.1,ab h.2 c8⟩)).kept (c2.mono (fun b h=>by have:=h.1;omega)) (fun b h=>by rw[h0];exact h.2)
    .exact i8.keep (EY m) (c2.mono (fun b h=>by have:=h.1;omega)) (by rw[h0];exact aa _)
    .exact(c2 _ (by omega)).trans ((b1.block _ (by omega)).trans h8)
    .exact gG ((b1.block _ (dk _)).trans e5) 9 _
    .exact(e6 _ _ (by omega) i0).setCell (p:=⟨d.heap.size,9,none⟩) (by show R.heap.size<=d.heap.size;omega) _
   case measure=>simp[intOf];omega
  .obtain rfl:i=n:=by omega
   have j4:=(g.block _ d6).trans h7
   go_wp2_with(first
    |(refine ww S rfl (.tmp 11) rfl rfl ?_)
    |(refine rA y K ⟨P,m,Q⟩ ⟨sa,i,N⟩ M r j4 rfl rfl (.tmp 6) (.tmp 68) rfl rfl rfl ?_;intro q h9 e9;have H9:=O h9;have c0:=O e9;clear h9 e9))
   refine ar (EZ rfl rfl rfl H9) rfl ?_
   have L:gN (fun b=>b≠w.heap.size+1) wr q:=by rw[c0];exact gK _ _ _ _
   have c8:q.heap.size=wr.heap.size:=by rw[c0,im]
   have j5:Below w w q:=by rw[c0];exact ig (bY _) _ _ (a2.trans (g.mono a2.size))
   refine⟨K,⟨P,m,Q⟩,⟨sa,i,N⟩,M,r,j,by rw[<- Hy];rfl,?_,?_,?_,j5⟩
   .rw[<- Hy]
    exact f2.keep (((gE g).mono (fun b h=>by obtain h|h:=h;have:=W b h;omega;exact h.2)).trans (L.mono (fun b h=>by obtain h|h:=h;have:=W b h;omega;have:=h.1;omega))) (fun b h=>by
     have:=g.size
     obtain h|h:=h
     .exact VR h
     .exact VS ⟨by have:=h.1;omega,by have:=h.2;omega⟩)
   .exact((jD.rr2 (EY m) F).kept (EY m) (L.mono (fun b h=>by have:=h.1;omega)) (fun b h=>⟨by have:=h.1;omega,by rw[c8];exact h.2⟩))
   .rw[<- Hy,a5,f1]
def PM{ws:List Int}{n:Nat}{p:Int}(b:1<=n)(h5:n<=5)(a:(List.range n).all (jM ws)=true)(h0:0<=p)(h1:p<n):VY p ws n=true:=by
 unfold VY;rw[a];simp[bt];omega
def PN{far:Int}{zs:List Int}{n:Nat}(b:1<=n)(h5:n<=5)(a:(List.range n).all (iV (jj far) zs)=true):jx far zs n=true:=by
 unfold jx;rw[a];simp[bt];omega
def K6(x:rz)(s f v k:iJ)(w:World)(hx:xU (fun b=>b<w.heap.size) w x s f v k):
 Calls prog 23 #[EW x s f v k] w (SD x w):=by
 obtain⟨sa,n,sc⟩:=s;have Hx:=O hx;clear hx;obtain⟨e1,e2⟩:=iN w (.cells (lI x ⟨sa,n,sc⟩ f v k).toArray 28) (.cells #[ik,oZ,oZ,oZ,oZ,oN,oN,oN,oN] 38);have Hb:=O (iH (w:=w) (.cells (lI x ⟨sa,n,sc⟩ f v k).toArray 28) (.cells #[ik,oZ,oZ,oZ,oZ,oN,oN,oN,oN] 38));have E1:=O e1;have E2:=O e2;clear e1 e2;go_enter func23,ntmps23;go_upto_region 1 with fail;refine gI (Ig w x ⟨sa,n,sc⟩ f v k (.slice none 0 0) []) ⟨⟨[],rfl,jD.nil _ _ _ _ _,qu.nil,fun _ h=>by cases h⟩,E1.out,E2.out,Hb.out,fun _ h=>by cases h⟩ ?_;clear E1 E2 Hb;rintro w1 A;have r:=O A;clear A;go_wp2
 go_loopw [3,4] (fun sv iv wr=>∃(i:Nat)(l:List gM),i<=5/\i<=n/\l=(x.surfs.take i).map oh/\l.length=i/\iv=.int .i64 (i:Int)/\Ig w x ⟨sa,n,sc⟩ f v k sv l wr) (fun _ iv _=>5-(intOf iv).toNat)
 case atStart=>exact⟨0,[],by omega,by omega,rfl,rfl,rfl,r.out⟩
 case round=>
  clear r;obtain⟨i,l,hi,p5,j7,hl,rfl,A⟩:=hrel;have g6:=O j7;clear j7;have c0:=A.d.cells.1;have hlt:=A.d.lt;have k2:=A.size;have r:=O A;have X:=O hl;clear A hl;by_cases d0:i<n/\i<5
  .obtain⟨d0,q8⟩:=d0
   obtain⟨bs,so,y,cs,e1,r0,l7,⟨ya,yn,yc,rfl,l1,l4⟩,a7⟩:=(Hx.out.kept (gE r.out.b) (fun b h=>h)).s.at d0
   try simp only at e1
   subst e1;have n4:=O l1;have n5:=O l4;have n6:=O a7;have n8:=O l7;clear l1 l4 a7 l7
   go_wp2_with(first
    |(refine wu n6.out rfl (.tmp 22) rfl rfl ?_)
    |(go_at_call 45;refine(KU y ya yn yc _ (n4.out.kept (gN.refl _ _) (fun b h=>ab h r.out.b.size)) n5.out).mono ?_;rintro e w2 ⟨ys,ca,cn,cc,zs,l5,rfl,j1,h9,i0,b7,i9,b5⟩;have n7:=O l5;have e3:=O j1;have q4:=O h9;have m0:=O i0;have b3:=O b7;have m7:=O i9;have q3:=O b5;have m1:=O (r.out.go b5);have o5:=b5.size;obtain⟨lq,t,u,E,C⟩:=r.out.q;have P:=O ((mD lq).symm.trans (ai List.length t));have b2:=O t;have Hq:=O (u.go jX b5);have b0:=O E;have b4:=O C;clear t u E C;clear l5 j1 h9 i0 b7 i9 b5)
    |(refine kA jX underlying35 Tryz.infoSurf3 rfl (by omega) (by omega) rfl (.tmp 18) (.tmp 25) rfl (w+2) w2 _ lq ⟨⟨ys,zs⟩,wr.heap.size,w2.heap.size⟩ (gX ys ca cn cc) l.length P.out rfl Hq.out rfl rfl ⟨ca,cn,cc,rfl,e3.out.kept (gN.refl _ _) (fun b h=>⟨⟨by omega,h.2,r.out.o.fresh h.1⟩,h⟩),by have:=m0.out;omega,m7.out⟩ (by rw[P.out,X.out];omega) (by omega) ?_;intro g3 a1 w8 T Q _ _;have D:=O (m1.out.more b2.out b0.out b4.out (aa _) o5 (aa _) (by unfold tr;rw[<- mU e3.out.irp];exact b3.out) T Q);clear T Q))
   go_roundw
   case rel=>exact⟨i+1,_,by omega,by omega,by rw[g6.out,n7.out,mn n8.out,aT];rfl,by rw[al,X.out];rfl,by go_num,D.out⟩
   case measure=>simp[intOf];omega
  .have l0:¬i<n\/(i<n/\ ¬i<5):=by omega
   have d3:l=JD x:=by
    rw[g6.out];unfold JD;have hn:x.surfs.length=n:=Hx.out.s.1;by_cases h5:i=5
    .rw[h5]
    .rw[aM (by omega:x.surfs.length<=i),aM (by omega:x.surfs.length<=5)]
   have c5:=O d3;clear d3;clear d0
   obtain⟨oa,oc,rfl⟩:∃oa oc,u3=.slice oa i oc:=by
    obtain⟨a,c,e,_⟩:=jD.sl r.out.o;rw[X.out]at e;exact⟨a,c,e⟩
   go_upto_region 3 with fail
   go_cut [15] (fun v wx=>v=.bool false/\wr=wx)
   case first=>
    obtain hx|⟨hx,hx4⟩:=l0
    all_goals
     go_wp2;go_meet;exact⟨by first|rfl|(simp;omega),rfl⟩
   case rest=>
    obtain⟨rfl,rfl⟩:=hcut;clear l0 c0
    go_upto_if 29 with fail
    go_cut [3] (fun sv wx=>∃(l:List gM),1<=l.length/\l.length<=5/\l=om x/\Ig w x ⟨sa,n,sc⟩ f v k sv l wx)
    case first=>
     by_cases c9:i=0
     .have f6:((i:Int)==0)=true:=by simp;omega
      have b3:=O (show tr ⟨jB 0 10000000,[]⟩=true from wA (by omega) (by omega));have e3:=O (IRp.nil (fun b=>w.heap.size+2<=b/\b<wr.heap.size/\(Value.slice oa i oc).ownBlock≠some b) wr 3 none 0)
      have q7:i+1<=5:=by omega
      have i2:l++[⟨jB 0 10000000,[]⟩]=om x:=by
       unfold om;rw[<- c5.out,aq (by rw[X.out];exact c9)];rw[aX.1 (by rw[X.out];exact c9:l.length=0)];rfl
      have m3:=O i2;clear c9 i2;obtain⟨lq,t,u,E,C⟩:=r.out.q;have P:=O ((mD lq).symm.trans (ai List.length t));have b2:=O t;have Hq:=O u;have b0:=O E;have b4:=O C;clear t u E C
      go_wp2_with(refine kA jX underlying35 Tryz.infoSurf3 rfl (by omega) (by omega) rfl (.tmp 30) (.tmp 32) rfl (w+2) wr _ lq ⟨⟨jB 0 10000000,[]⟩,wr.heap.size,wr.heap.size⟩ (gX (jB 0 10000000) none 0 0) l.length P.out rfl Hq.out rfl rfl ⟨none,0,0,rfl,jN.nil _ _,by omega,lD 0⟩ (by rw[P.out,X.out];omega) (by omega) ?_;intro g3 a1 w8 T Q _ _;have D:=O (r.out.more b2.out b0.out b4.out (aa _) (aa _) (aa _) b3.out T Q);clear T Q)
      go_meet;exact⟨_,by rw[al,X.out];simp,by rw[al,X.out];simp;omega,m3.out,D.out⟩
     .have f6:((i:Int)==0)=false:=by simp;omega
      go_wp2;go_meet;exact⟨l,by rw[X.out];omega,by rw[X.out];omega,(by unfold om;rw[<- c5.out,aj (by rw[X.out];exact c9)]),r.out⟩
    case rest=>
     obtain⟨m,h1,h5,j5,A⟩:=hcut;have e4:=O j5;clear j5;clear r X k2 hlt
     obtain⟨g,oc,rfl,q6,o2⟩:∃g oc,u3=.slice (J g) m.length oc/\w.heap.size+2<=g/\g<wc.heap.size:=by
      obtain ⟨_,e2⟩|⟨g,cap,e,q1,q2,_⟩:=A.o.form
      .rw[e2]at h1;cases h1
      .exact⟨g,cap,e,q1,q2⟩
     obtain⟨f8,f9⟩:=Hx.out.stop
     obtain⟨B,e6,a5⟩:∃B:Nat,x.stop% (m.length:Int)=(B:Int)/\B<m.length:=by
      have h0:=dq x.stop (by omega:(m.length:Int)≠0);have h1:=da x.stop (by omega:(0:Int) <(m.length:Int));exact⟨(x.stop% (m.length:Int)).toNat,by omega,by omega⟩
     have c1:=A.d.cells.2.1;have hlt:=A.d.lt;obtain⟨r6,⟨ya,yn,yc,rfl,f1,o8,o6,o7⟩,a7⟩:=A.o.at iD a5;have a2:=A.ok m[B] (cW a5)
     have l6: -1000000000<=m[B].s.tx/\m[B].s.tx<=1000000000:=by
      unfold tr at a2;rw[<- mU f1]at a2;exact Ns f1.1 a2
     have k0:=a7 0 _ rfl;have o9:=a7 12 _ rfl;rw[bE]at k0
     have j2:kU m B=m[B].s.kind:=by unfold kU;rw[aI,ae a5]
     have k3:Do m B=m[B].s.tx:=by unfold Do;rw[ae a5]
     have k1:zT x=B:=by unfold zT;rw[<- e4.out,e6];exact aI B
     generalize m[B].s.kind=kd at*;generalize m[B].s.tx=th at*;have r:=O A;have c4:=O j2;have h6:=O l6;have n0:=O k3;have g8:=O k1;clear k3 k1 A f1 o8 o6 o7 a7 a2 j2 l6
     go_upto_if 45 with fail
     go_cut [] (fun wx=>∃N:List gM,N.length=m.length/\kU N B≠3/\N=zU x/\Ig w x ⟨sa,n,sc⟩ f v k (.slice (J g) m.length oc) N wx)
     case first=>
      by_cases R:kd=3
      .have d1:(kd==3)=true:=by simpa using R
       clear R;have b7:tr ⟨jB 0 th,[]⟩=true:=wA (by omega) h6.out;obtain⟨lq,t,u,E,C⟩:=r.out.q
       have d5:B<lq.length:=by rw[<- mD,t];exact a5
       have d4:=u.set jX d5 (x:=⟨⟨jB 0 th,[]⟩,wc.heap.size,wc.heap.size⟩) (cs:=gX (jB 0 th) none 0 0) ⟨none,0,0,rfl,jN.nil _ _,by omega,lD 0⟩;have f0:=gK g (gX (jB 0 th) none 0 0) (B*22) wc
       have i1:Ig w x ⟨sa,n,sc⟩ f v k (.slice (J g) m.length oc) (m.set B ⟨jB 0 th,[]⟩) (wc.setCells g (B*22) (gX (jB 0 th) none 0 0)):=
        ⟨⟨_,by rw[El,t],d4,E.set (fun j y hy _=>VR (C y (aL hy)).2),(fun q u=>by
          rw[im]
          obtain u|rfl:=bH u
          .exact C q u
          .exact⟨aa _,aa _⟩)⟩,(f0 _ (by omega)).trans r.out.d,(f0 _ (by omega)).trans r.out.z,ig (by omega) _ _ r.out.b,fun q u=>by
          obtain u|rfl:=bH u
          .exact r.out.ok q u
          .exact b7⟩
       have d2:kU (m.set B ⟨jB 0 th,[]⟩) B≠3:=by
        unfold kU;rw[aI,List.getElem?_set_self a5]
        show(1:Int)≠3
        omega
       have m2:=O i1;have f3:=O d2
       have M:m.set B ⟨jB 0 th,[]⟩=zU x:=by
        unfold zU;rw[<- e4.out,g8.out,c4.out,aq (by simpa using d1),n0.out]
       have a9:=O M;clear M;clear i1 d2 d4 f0 b7 t u E C d5
       go_wp2_with(refine pX (jB 0 th) none 0 0 (r.out.o.there a5) rfl (.tmp 54) (.tmp 53) rfl rfl rfl ?_)
       go_meet;exact⟨_,by simp,f3.out,a9.out,m2.out⟩
      .have d1:(kd==3)=false:=by simpa using R
       go_wp2;go_meet;exact⟨m,rfl,by rw[c4.out];exact R,(by unfold zU;rw[<- e4.out,g8.out,c4.out,aj R]),r.out⟩
     case rest=>
      obtain⟨N,j6,R,M,A⟩:=hcut;have a9:=O M;clear M;have d7:=O e6;clear r c4 h6 k0 o9 o2 e6 f8 f9 c1 hlt;have k2:=A.size;have hlt:=A.d.lt;have c7:=A.d.cells.2.2.2.2.2.2.2.1;have j0:=Hx.out.t7;unfold qD at j0;have r:=O A;have a6:=O j6;have m8:=O R;clear A j6 R;have b3:=O (show tr ⟨jB (1000*x.t7) 0,[]⟩=true from wA (by omega) (by omega));have q5:=O j0;obtain⟨lq,t,u,E,C⟩:=r.out.q;have P:=O ((mD lq).symm.trans (ai List.length t));have b2:=O t;have Hq:=O u;have b0:=O E;have b4:=O C;clear t u E C
      go_upto_region 13 with(first
       |(refine kA jX underlying35 Tryz.infoSurf3 rfl (by omega) (by omega) rfl (.tmp 55) (.tmp 61) rfl (w+2) wc _ lq ⟨⟨jB (1000*x.t7) 0,[]⟩,wc.heap.size,wc.heap.size⟩ (gX (jB (1000*x.t7) 0) none 0 0) N.length P.out rfl Hq.out rfl rfl ⟨none,0,0,rfl,jN.nil _ _,by omega,lD 0⟩ (by rw[P.out,a6.out];omega) (by omega) ?_;intro g3 a1 w8 T Q _ _;have D:=O (r.out.more b2.out b0.out b4.out (aa _) (aa _) (aa _) b3.out T Q);clear T Q)
       |(refine sK D.out.d.range rfl (.tmp 1) rfl rfl ?_)
       |(go_at_call 46;refine(Ie x ⟨sa,n,sc⟩ f v k _ ((Hx.out.kept (gE D.out.b) (fun b h=>h)).v.kept (gN.refl _ _) (fun b h=>ab h D.out.b.size))).mono ?_;rintro e w9 ⟨p3,W,p4,vz,rfl,k8,k6,k4,k5,k7,k9,e8⟩;have n3:=O k9;clear k9;have h4:=O k8;have n1:=O k6;have e5:=O k4;have g9:=O k5;have n2:=O k7;have b8:=O (D.out.go e8);have g1:=O e8;clear k8 k6 k4 k5 k7 e8))
      obtain⟨w5,rfl⟩:∃w5:World,w5=w9:=⟨_,rfl⟩;have b6:=b8.out;have p6:=b6.d.lt;have r5:=TK b6.z;have q0:=b6.size;obtain⟨-,-,-,c3,-,-,c6,-,-⟩:=b6.d.cells;have o3:=Hx.out.p9;have j9:=Hx.out.i4;unfold og at o3 j9;have u0:IntKind.i64.wrap x.p9=x.p9:=TM _ (by omega);have u1:IntKind.i64.wrap (1+x.p9)=1+x.p9:=TM _ (by omega);have u2:IntKind.i64.wrap (100000*(1+x.p9))=100000*(1+x.p9):=TM _ (by omega);have u3:IntKind.i64.wrap x.i4=x.i4:=TM _ (by omega)
      have r4:¬W=0:=by have:=e5.out;omega
      have j8:0<=x.i4.tmod W/\x.i4.tmod W<W:=by
       have h1:=e5.out;rw[bu j9.1];exact⟨dq _ (by omega),da _ (by omega)⟩
      have g7:=O j8;clear b6 j8 c7;refine jw (w+1) [0,2,3,4,5,6,7,8,9,10,11,12,13,14,16,17,18,19] 5 (by kernel_rfl) rfl (by kernel_rfl) (by kernel_rfl) (fun _ _ o _ _ h=>by cases o<;>exact h) ?_;have c2:=O (show∀y:World,Below (w+1) w5.drew y->oU y w x ⟨sa,n,sc⟩ f v k from fun y hy=>(hy.block w (dk _)).trans b8.out.d);refine rB rfl (by rfl) c2.out _ rfl rfl ?_;try simp only[V]
      iterate 12
       refine jW (v:=?_) rfl (by rfl) ?_ ?_;rotate_left
       .intro y hy
        have z3:=(hy.cell (p:=⟨w.heap.size,3,none⟩) (dk _)).trans c3;have z6:=(hy.cell (p:=⟨w.heap.size,6,none⟩) (dk _)).trans c6;go_simp;with_reducible rfl
       try simp only[V]
      refine rB rfl (by rfl) c2.out _ rfl rfl ?_;try simp only[V]
      iterate 2
       refine jW (v:=?_) rfl (by rfl) ?_ ?_;rotate_left
       .intro y hy
        go_simp;with_reducible rfl
       try simp only[V]
      refine rB rfl (by rfl) c2.out _ rfl rfl ?_;try simp only[V]
      iterate 1
       refine jW (v:=?_) rfl (by rfl) ?_ ?_;rotate_left
       .intro y hy
        go_simp;with_reducible rfl
       try simp only[V]
      refine mB ?_;clear c3 c6 u0 u1 u2 u3 c2;have o1:Below w5 w5 w5.drew:=jA (TH _ _);refine ia (i:=1) (fun K H=>?_);go_simp;refine(JB x ⟨sa,n,sc⟩ f v k _ Hx.out.far).mono ?_;rintro e wa ⟨rfl,e9⟩;refine H _ _ (e9.mono (by show w.heap.size+1<=w5.heap.size;omega)) ?_;clear H K;(try simp only[V]);have F:Below w5 w5 wa:=gJ (k:=1) e9;have r1:=F.size;clear e9 o1;have b9:=O (b8.out.go F);have h2:=O (h4.out.kept ((gE F).mono (fun b h=>h.2)) (fun b h=>(⟨h.1,ab h.2 F.size⟩:w8.heap.size<=b/\b<wa.heap.size)));have d8:=O (g1.out.trans (F.mono g1.out.size));clear b8 h4 F;refine ia (i:=15) (fun K H=>?_);go_simp;refine(Fa x ⟨sa,n,sc⟩ f v k wa ((Hx.out.kept (gE b9.out.b) (fun b h=>h)).f.kept (gN.refl _ _) (fun b h=>ab h b9.out.b.size)) Hx.out.far).mono ?_;rintro e wb ⟨n9,h8,o0,fz,rfl,i8,i6,i3,i5,i7,a3⟩;refine H _ _ (a3.mono (by omega)) ?_;clear H K;(try simp only[V]);have r2:=a3.size;have b1:=O (b9.out.go a3);have h3:=O (h2.out.kept ((gE a3).mono (fun b h=>h.2)) (fun b h=>(⟨h.1,ab h.2 a3.size⟩:w8.heap.size<=b/\b<wb.heap.size)));have d9:=O (d8.out.trans (a3.mono d8.out.size));have g4:=O i8;have m5:=O i6;have m4:=O i3;have g2:=O i5;have m6:=O i7;clear b9 h2 a3 i8 i6 i3 i5 i7;refine ia (i:=20) (fun K H=>?_);go_simp
      have q9:(N++[(⟨jB (1000*x.t7) 0,[]⟩:gM)]).length=N.length+1:=by rw[al];rfl
      refine(KV x ⟨sa,n,sc⟩ f v k (N++[⟨jB (1000*x.t7) 0,[]⟩]) _ (N.length+1) a1 wb ((Hx.out.kept (gE b1.out.b) (fun b h=>h)).k.kept Id (gN.refl _ _) (fun b h=>ab h b1.out.b.size)) (b1.out.o.rr iD) (by omega) (by rw[a6.out];omega)).mono ?_;rintro e d6 ⟨p0,l8,p1,cf,rfl,j4,j3,c8,L⟩;refine H _ _ (L.mono (by omega)) ?_;clear H K;(try simp only[V]);have r3:=L.size;have e0:=O (b1.out.go L);have a0:=O (h3.out.kept ((gE L).mono (fun b h=>h.2)) (fun b h=>(⟨h.1,ab h.2 L.size⟩:w8.heap.size<=b/\b<d6.heap.size)));have a8:=O (g4.out.kept ((gE L).mono (fun b h=>h.2)) (fun b h=>(⟨by have:=h.1;have:=d8.out.size;omega,ab h.2 L.size⟩:w8.heap.size<=b/\b<d6.heap.size)));have l9:=O (d9.out.trans (L.mono d9.out.size));have f2:=O c8;clear c8;have g5:=O j4;have m9:=O j3;clear b1 h3 g4 L j4 j3;refine ia (i:=21) (fun K H=>?_);go_simp;refine H _ _ (TH _ _) ?_;clear H K;(try simp only[V]);refine mm (i:=22) (fun K H=>?_);refine ja ⟨⟨#[100,114,97,102,116]⟩,uP x,100000*(1+x.p9),x.stop% (m.length:Int),x.i4.tmod W,fz,vz,N++[⟨jB (1000*x.t7) 0,[]⟩],cf⟩ ⟨n9,h8,o0⟩ ⟨p3,W,p4⟩ ⟨some ⟨g3,0,none⟩,N.length+1,a1⟩ ⟨p0,l8,p1⟩ e0.out.z rfl rfl (.tmp 2) (.tmp 86) rfl rfl rfl ?_;intro w7 h7 e7;refine H _ _ (by rw[e7];exact ig (aa _) _ _ (TH _ _)) ?_;clear H K;have H7:=O h7;have E7:=O e7;clear h7 e7;refine lH (by kernel_rfl) ?_;(try simp only[V]);go_wp2_with fail;refine ar (Fe rfl rfl H7.out) rfl ?_
      have S:gN (fun b=>b≠w.heap.size+1) d6 w7:=by rw[E7.out];exact gK _ _ _ _
      have a4:w7.heap.size=d6.heap.size:=by rw[E7.out,im]
      have f4:=D.out.ok;have p7:=D.out.size;have p8:=d9.out.size;obtain⟨p2,f7,o4,f5,g0⟩:=D.out.q;refine⟨_,_,_,_,_,rfl,⟨⟨?_,?_,?_,?_,?_,?_,?_,?_,m5.out,n1.out,(by decide:(ByteArray.mk #[100,114,97,102,116]).size<=9223372036854775807)⟩,⟨p2,0,w8.heap.size,f7,(((o4.go jX l9.out).keep jX (S.mono (fun b h=>by have:=h.1;omega)) (by omega)).rro jX).kept (BT jX _) (gN.refl _ _) (fun b h=>⟨by have:=h.1;omega,h.2⟩),f5,(fun q u=>⟨aA _,g0 q u⟩),?_,?_,?_⟩⟩,?_,(by show _=Dp x;unfold Dp;rw[<- a9.out]),rfl,rfl,(by rw[<- qW a0.out];exact n3.out),?_⟩
      .exact a8.out.kept (S.mono (fun b h=>by have:=h.1;omega)) (fun b h=>⟨by have:=h.1;omega,by rw[a4];exact h.2⟩)
      .exact a0.out.kept (S.mono (fun b h=>by have:=h.1;omega)) (fun b h=>⟨by have:=h.1;omega,by rw[a4];exact h.2⟩)
      .exact(jD.rr2 iD e0.out.o).kept iD (S.mono (fun b h=>by omega)) (fun b h=>⟨by have:=h.1;omega,by rw[a4];exact h.2⟩)
      .exact g5.out.kept ky (S.mono (fun b h=>by have:=h.1;omega)) (fun b h=>⟨by have:=h.1;omega,by rw[a4];exact h.2⟩)
      .show h8<=1000000;have:=g2.out;omega
      .show W<=1000000;have:=g9.out;omega
      .show N.length+1<=1000000;have:=a6.out;omega
      .show l8<=1000000;have:=m9.out;omega
      .exact a8.out.kept (S.mono (fun b h=>by have:=h.1;omega)) (fun b h=>⟨⟨by have:=h.1;omega,by rw[a4];exact h.2⟩,VS h.1⟩)
      .exact a0.out.kept (S.mono (fun b h=>by have:=h.1;omega)) (fun b h=>⟨⟨by have:=h.1;omega,by rw[a4];exact h.2⟩,VS h.1⟩)
      .exact g5.out.kept ky (S.mono (fun b h=>by have:=h.1;omega)) (fun b h=>⟨⟨by have:=h.1;omega,by rw[a4];exact h.2⟩,VS (by have:=h.1;omega)⟩)
      .refine Nu Fc (yJ Hx.out.far) ⟨by show 1<=100000*(1+x.p9);omega,by show 100000*(1+x.p9)<=1000000000;omega⟩ ?_ ?_ ?_ f2.out
       .show jx (uP x) fz (fz.length/2)=true
        rw[<- qW a8.out];exact PN m4.out g2.out m6.out
       .show VY (x.i4.tmod W) vz (vz.length/2)=true
        rw[<- qW a0.out];exact PM e5.out g9.out n2.out g7.out.1 g7.out.2
       .exact Nt (by rw[a6.out];exact h1) (by rw[a6.out];exact h5) (fun q u=>f4 q (List.mem_append_left _ u)) (by omega) (by show 0<=x.stop% (m.length:Int);rw[d7.out];omega) (by show x.stop% (m.length:Int) <_;rw[d7.out,a6.out];omega) (by show kU N (x.stop% (m.length:Int))≠3;rw[d7.out];exact m8.out)
      .rw[E7.out];exact ig (bY _) _ _ e0.out.b
section
variable{P:Program}{H:Type}{enc:TypeId×Value->H}{w:World}{base:Nat}{sp:Nat->Bool}{held:Bool}{t e:TypeId}{cs:List Value}
def Rd(enc:TypeId×Value->H)(P:Program)(w:World)(base:Nat)(b:Nat->Bool)(a:Bool)(t:TypeId)(cs:List Value):Prop:=∃fuel x,DataW.trod enc P w base b a fuel t cs=some x
def xz{k:IntKind}(a:P.underlying t=some (.int k))(h:Rd enc P w base sp held t cs):∃n,cs=[.int k n]/\k.min<=n/\n<=k.max:=by
 obtain⟨fuel,x,h⟩:=h;obtain⟨n,rfl,_,hw⟩:=DataW.trod_int a h;exact⟨n,rfl,by simpa[Lit.wf]using hw⟩
def DY{fs:Array Field}(b:P.underlying t=some (.struct fs))(h:Rd enc P w base sp held t cs):cs.length=P.cellsOf t:=by
 obtain⟨fuel,x,h⟩:=h;obtain⟨_,_,_,_,a,_⟩:=DataW.trod_struct b h;exact a
def iO{fs:Array Field}{ty off n:Nat}(e:P.underlying t=some (.struct fs))(h:Rd enc P w base sp held t cs)(i:Nat)(hf:(fs[i]?).map (fun f=>(f.type,f.offset))=some (ty,off))(d:P.cellsOf ty=n):
 Rd enc P w base sp held ty ((cs.drop off).take n):=by
 obtain⟨fuel,x,h⟩:=h;obtain⟨xs,m,_,_,j,g,c⟩:=DataW.trod_struct e h;obtain⟨f,a,b⟩:=gj.1 hf;cases b;have:=c i f a
 have hi:i<xs.length:=by
  rw[g];exact(cu.1 a).1
 rw[ae hi,d]at this;exact⟨m,_,this⟩
def OU{k:IntKind}{n:Nat}(f:P.underlying t=some (.array n e))(d:P.underlying e=some (.int k))(a:P.cellsOf e=1)(g:P.cellsOf t=n)(h:Rd enc P w base sp held t cs):
 ∀i,i<n-> ∃z,cs[i]? =some (.int k z)/\k.min<=z/\z<=k.max:=by
 obtain⟨fuel,x,h⟩:=h;obtain⟨xs,m,_,_,j,l,b⟩:=DataW.trod_array f h;intro i hi;have h1:=b i hi;rw[a,dn,ae (by omega)]at h1;obtain⟨z,c,h2⟩:=xz d ⟨m,_,h1⟩;refine⟨z,?_,h2⟩
 have:((cs.drop i).take 1)[0]? =some (.int k z):=by rw[c];rfl
 rw[cZ,aq (by omega),cp,bE]at this;exact this
def Mu{a:Addr}{v:Value}(h:w.cell? a=some v):a=⟨a.block,a.off,none⟩/\a.block<w.heap.size:=by
 unfold World.cell? at h;split at h
 .rename_i c _ _ hb
  split at h
  .cases h
  .rename_i hs
   refine⟨?_,TK hb⟩;obtain⟨b,o,s⟩:=a
   cases s with
   |none=>rfl
   |some s=>simp at hs
 .cases h
def Gg{m:Nat}(K:P.underlying t=some (.slice e))(F:P.cellsOf e=m)(h0:0<m)(h:Rd enc P w base sp held t cs):
 ∃a n c,cs=[.slice a n c]/\(a=none->n=0/\c=0)/\n<=c/\
  (0<n-> ∃b off,a=some ⟨b,off,none⟩/\b<w.heap.size/\ ∀i,i<n-> ∃d,d.length=m/\Rd enc P w base sp held e d/\w.rangeAt b (off+i*m) d):=by
 obtain⟨fuel,x,h⟩:=h
 obtain ⟨rfl,_⟩|⟨a,len,cap,p,B,n,_,rfl,_,Q,E,M,A,u,_,_⟩:=DataW.trod_slice K h
 .exact⟨none,0,0,rfl,fun _=>⟨rfl,rfl⟩,aa _,fun h=>absurd h (by omega)⟩
 .refine⟨some a,len,cap,rfl,fun e=>by(exact absurd e (by simp)),E,fun o=>?_⟩
  have k:∀i,i<len-> ∃d,w.cells? base (a.add (i*m)) m=some d/\Rd enc P w base sp held e d:=by
   intro i hi;have h1:=u i hi;rw[ae (by omega),F]at h1;obtain⟨d,h2,h3⟩:=Option.bind_eq_some_iff.1 h1;exact⟨d,h2,n,_,h3⟩
  obtain⟨L,s,_⟩:=k 0 o;obtain⟨_,N,g⟩:=World.cells?_some s;have f:=g 0 h0;rw[ae (by omega)]at f;rw[eB]at f
  have r:(a.add 0).add 0=a:=by simp[Addr.add]
  rw[r]at f;obtain⟨q,hlt⟩:=Mu f;refine⟨a.block,a.off,by rw[<- q],hlt,fun i hi=>?_⟩;obtain⟨d,C,H⟩:=k i hi;obtain⟨_,y,l⟩:=World.cells?_some C;refine⟨d,y,H,fun j v z=>?_⟩
  have D:j<m:=by have:=(TG.1 z).1;omega
  have:=l j D;rw[z]at this;rw[<- this];rw[q,fC,fC]
def DZ{α:Type}{p:Nat->α->Prop}:∀n:Nat,(∀i,i<n-> ∃x,p i x)-> ∃l:List α,l.length=n/\ ∀i x,l[i]? =some x->p i x
 |0,_=>⟨[],rfl,fun i x h=>by simp at h⟩
 |n+1,h=>by
  obtain⟨l,b,c⟩:=DZ n (fun i hi=>h i (by omega));obtain⟨x,d⟩:=h n (by omega);refine⟨l++[x],by simp[b],fun i y a=>?_⟩;by_cases hi:i<n
  .rw[aF (by omega)]at a
   exact c i y a
  .rw[aY (by omega)]at a
   have:i=n:=by
    have:=(TG.1 a).1;simp at this;omega
   subst this;rw[b,eC]at a;cases a;exact d
def I9{α:Type}{R:pB α}{m:Nat}(u:P.underlying t=some (.slice e))(r:P.cellsOf e=m)(h0:0<m)(o:∀d,d.length=m->Rd enc P w base sp held e d-> ∃x,R (fun b=>b<w.heap.size) w x d)(h:Rd enc P w base sp held t cs):
 ∃(p:iJ)(l:List α),cs=[.slice p.a p.n p.c]/\RR R m (fun b=>b<w.heap.size) w p.a p.n p.c l:=by
 obtain⟨a,n,c,rfl,y,k,f⟩:=Gg u r h0 h;by_cases j:0<n
 .obtain⟨b,off,rfl,hlt,g⟩:=f j
  obtain⟨l,q,s⟩:=DZ (p:=fun i x=>∃d,R (fun b=>b<w.heap.size) w x d/\w.rangeAt b (off+i*m) d) n (fun i hi=>by
   obtain⟨d,h1,h2,h3⟩:=g i hi;obtain⟨x,v⟩:=o d h1 h2
   exact⟨x,d,v,h3⟩)
  exact⟨⟨some ⟨b,off,none⟩,n,c⟩,l,rfl,q,k,fun _=>⟨b,off,rfl,hlt,s⟩⟩
 .obtain rfl:n=0:=by omega
  exact⟨⟨a,0,c⟩,[],rfl,RR.nil _ _ _ _ _ _⟩
def AQ(A:P.underlying t=some (.slice e))(s:P.underlying e=some (.int .u8))(v:P.cellsOf e=1)(h:Rd enc P w base sp held t cs):
 ∃(p:iJ)(zs:List Int),cs=[.slice p.a p.n p.c]/\BR (fun b=>b<w.heap.size) w p.a p.n p.c zs:=by
 obtain⟨a,n,c,rfl,C,g,f⟩:=Gg A v (by omega) h;by_cases o:0<n
 .obtain⟨b,off,rfl,hlt,k⟩:=f o
  obtain⟨l,u,y⟩:=DZ (p:=fun i (x:Int)=>w.cell? ⟨b,off+i,none⟩=some (.int .u8 x)/\0<=x/\x<=255) n (fun i hi=>by
   obtain⟨B,h1,h2,h3⟩:=k i hi;obtain⟨z,rfl,q,r⟩:=xz s h2;have:=h3 0 _ rfl;rw[dn,bE]at this;refine⟨z,this,?_,?_⟩
   .simpa[IntKind.min,IntKind.signed,IntKind.bits]using q
   .simpa[IntKind.max,IntKind.signed,IntKind.bits]using r)
  refine⟨⟨some ⟨b,off,none⟩,n,c⟩,l,rfl,u,g,fun j d=>⟨b,off,rfl,hlt,?_⟩⟩;have d:j<n:=d
  have m:l[j]? =some (l.getD j 0):=by rw[ah,ae (by omega)];rfl
  exact y j _ m
 .obtain rfl:n=0:=by omega
  exact⟨⟨a,0,c⟩,[],rfl,rfl,g,fun j d=>absurd (show j<0 from d) (by omega)⟩
end
def Rt(w:World)(e:Ending)(w':World):Prop:=
 ∃y f v s k p,e=.returned (If y f v s k p)/\mj (fun b=>w.heap.size<=b/\b<w'.heap.size) w' y f v s k/\iI y=true/\y.cf=[]/\Below w w w'
def qd(x:rz)(c:Int)(s f v k:iJ):List Value:=[.slice s.a s.n s.c,.int .u8 x.stop,.int .u16 x.far,.int .u8 x.p9,.slice f.a f.n f.c,.slice v.a v.n v.c,.int .u8 x.i4,.int .i16 x.t7,.slice k.a k.n k.c,.int .u8 c]
def Fh(x:rz)(c:Int)(s f v k:iJ):Value:=.agg #[Z s.a s.n s.c,.int .u8 x.stop,.int .u16 x.far,.int .u8 x.p9,Z f.a f.n f.c,Z v.a v.n v.c,.int .u8 x.i4,.int .i16 x.t7,Z k.a k.n k.c,.int .u8 c]
def Sj(w:World)(g:Nat)(x:rz)(c:Int)(s f v k:iJ):Prop:=w.heap[g]? =some (.cells (qd x c s f v k).toArray 30 (0,0))
def Sj.range{w:World}{g:Nat}{x:rz}{c:Int}{s f v k:iJ}(h:Sj w g x c s f v k):w.rangeAt g 0 (lI x s f v k):=by
 intro j u a;rw[VV h];unfold lI at a;have b:j<9:=(TG.1 a).1;rw[aV,bo]
 match j,b with
 |0,_=>exact a
 |1,_=>exact a
 |2,_=>exact a
 |3,_=>exact a
 |4,_=>exact a
 |5,_=>exact a
 |6,_=>exact a
 |7,_=>exact a
 |8,_=>exact a
def Ru{n:Nat}{c:Int}(h0:0<=c): -1<=c.tmod ((n:Int)+1)-1/\c.tmod ((n:Int)+1)-1<(n:Int):=by
 have h1:=dq c (by omega:(n:Int)+1≠0);have h2:=da c (by omega:0<(n:Int)+1);rw[bu h0];omega
def zW(x:rz)(c:Int)(s f v k:iJ)(w:World)(hx:xU (fun b=>b<w.heap.size) w x s f v k)(hc:og c):
 Calls prog 6 #[Fh x c s f v k] w (Rt w):=by
 have Hx:=O hx;clear hx;obtain⟨e1,e2⟩:=iN w (.cells (qd x c s f v k).toArray 30) (.cells #[ik,oZ,oZ,oZ,oZ,oN,oN,oN,oN,oN] 42);have u:=O (iH (w:=w) (.cells (qd x c s f v k).toArray 30) (.cells #[ik,oZ,oZ,oZ,oZ,oN,oN,oN,oN,oN] 42));have E1:=O e1;have E2:=O e2;clear e1 e2;unfold Fh;go_enter func6,ntmps6;go_upto_region 1 with fail;refine gI (fun Q=>Sj Q w x c s f v k/\Q.heap[w.heap.size+1]? =some (.cells #[ik,oZ,oZ,oZ,oZ,oN,oN,oN,oN,oN] 42 (0,0))/\Below w w Q) ⟨E1,E2,u⟩ ?_;clear E1 E2 u;rintro w1 ⟨h1,h2,hb⟩;have b4:=TK h1;have b5:=TK h2;have H1:=O h1;have H2:=O h2;have u:=O hb;clear h1 h2 hb
 go_wp2_with(refine sK H1.range rfl (.tmp 6) rfl rfl ?_)
 refine(K6 x s f v k w1 (Hx.kept (gE u) (fun b h=>ab h u.size))).mono ?_;rintro e a ⟨t,yf,yv,ys,i,X,g,N,hl,-,-,b9,q⟩;unfold jG at X;subst X
 have hgl:qF t.l:=by rw[hl];exact Ii x
 have a4:=O ((q.block _ b4).trans H1);have a5:=O ((q.block _ b5).trans H2);have b6:=q.size;have Hy:=O g;have j:=O N;have d6:=O b9;have d4:=O hgl;have d2:=O (I u q);clear g N b9 hgl hl q H1 H2;go_upto_region 2 with fail;refine gI (fun Q=>hU Q a 38 t yf yv ys i/\Below a a Q) ⟨TL a _,gY (TH _ _)⟩ ?_;rintro z ⟨h3,r⟩;obtain⟨c0,c1,c2,c3,c4,c5,c6,c7,c8⟩:=h3.cells;have d:=h3.lt;have b7:=r.size;have g9:z.cell? ⟨w.heap.size,9,none⟩=some (.int .u8 c):=(VV ((r.block _ (ab b4 b6)).trans a4) 9).trans rfl
 have e3:w.heap.size<z.heap.size:=by omega
 have d0:=O ((r.block _ (ab b5 b6)).trans a5);have a1:t.cf.length=i.n:=Hy.at'.cf.1;have f3:i.n<=1000000:=Hy.at'.kn;have H3:=O h3;have a7:=O r;clear h3 r a4 a5;unfold og at hc;have u1:IntKind.i64.wrap c=c:=TM _ (by omega);have M:=Ru (n:=i.n) hc.1;have u2:IntKind.i64.wrap ((i.n:Int)+1)=(i.n:Int)+1:=TM _ (by omega)
 have u3:¬(i.n:Int)+1=0:=by omega
 have u4:IntKind.i64.wrap (c.tmod ((i.n:Int)+1)-1)=c.tmod ((i.n:Int)+1)-1:=TM _ (by omega);refine ic 16 [14] [(15,4,.cells #[ik,oZ,oZ,oZ,oZ,oN,oN,oN,oN,oN] 42)] [(0,true),(2,true),(3,true),(4,true),(5,true),(6,true),(7,true),(8,true),(9,true),(10,true),(1,false),(11,false),(12,true),(13,true),(14,true)] (by kernel_rfl) (by kernel_rfl) ⟨by simp,by simp,by(simp only[ct];exact⟨⟨by omega,_,rfl,rfl,rfl,fun _ _=>rfl⟩,fun _ h=>by cases h⟩)⟩ (fun _ _ _ _ _ h=>h) (fun _ _ o _ _ h=>by cases o<;>exact h) ?_
 iterate 10
  refine gZ (v:=?_) ?_ ?_;rotate_left
  .intro y g
   have y0:=(g.cell (p:=J (a.heap.size)) d).trans c0;have y1:=(g.cell (p:=⟨a.heap.size,1,none⟩) d).trans c1;have y2:=(g.cell (p:=⟨a.heap.size,2,none⟩) d).trans c2;have y3:=(g.cell (p:=⟨a.heap.size,3,none⟩) d).trans c3;have y4:=(g.cell (p:=⟨a.heap.size,4,none⟩) d).trans c4;have y5:=(g.cell (p:=⟨a.heap.size,5,none⟩) d).trans c5;have y6:=(g.cell (p:=⟨a.heap.size,6,none⟩) d).trans c6;have y7:=(g.cell (p:=⟨a.heap.size,7,none⟩) d).trans c7;have y8:=(g.cell (p:=⟨a.heap.size,8,none⟩) d).trans c8;have y9:=(g.cell (p:=⟨w.heap.size,9,none⟩) e3).trans g9;go_simp;with_reducible rfl
  try simp only[V]
 clear c0 c1 c2 c3 c4 c5 c6 c7 c8 g9 u1 u2 u3 u4;generalize c.tmod ((i.n:Int)+1)-1=ci at*;refine iK (fun xa c9 K S=>?_);go_simp;refine(Bk xa).mono ?_;rintro e wa ⟨ga,gc,rfl,b3,T⟩;refine S _ _ T ?_;clear S K;(try simp only[V]);have a2:=gJ (k:=1) c9;have a8:=O (a2.trans (T.mono a2.size));have d3:=O b3;clear b3 c9 a2 T;refine iK (fun xb P K S=>?_);go_simp;have F:=a8.trans (P.mono a8.size);have D:=a7.trans (F.mono b7);refine(Np t yf yv ys i xb (fun b=>w1.heap.size<=b/\b<a.heap.size) (fun b h=>ab h.2 D.size) ci ga gc (Hy.go D (fun b h=>h.2) (fun b h=>h)) j M.1 (by rw[a1];exact M.2) ((d3.kept wl (gE P|>.mono (fun b h=>h.2)) (fun b h=>ab h.2 P.size))) d6 (KY d4 j (by rw[a1];exact M.2))).mono ?_;rintro e wb ⟨zf,zv,zs,zk,zp,e9,X,hz,e8,e7,W⟩;unfold If at X;subst X;refine S _ _ W ?_;clear S K;(try simp only[V]);have B:=O (F.trans (W.mono F.size));have Hz:=O hz;have Hs:=O D.size;have e4:=O (KZ j (show ci<(t.cf.length:Int)by rw[a1];exact M.2));clear hz e8 e7 F D P W
 iterate 2
  refine gZ (v:=?_) ?_ ?_;rotate_left
  .intro y g
   skip;go_simp;with_reducible rfl
  try simp only[V]
 iterate 1
  refine iy (v:=?_) ?_ ?_;rotate_left
  .intro y
   go_simp;with_reducible rfl
  try simp only[V]
 refine nV (l:=[_,_]) rfl (fun g4 w4 hC L b2=>?_);(try simp only[V]);have m:=B.trans (L.mono B.size);have d9:z.heap.size<=g4:=hC.1.1;have f2:g4<xb.heap.size\/wb.heap.size<=g4:=hC.2;have b0:=(m.block _ (by show w.heap.size+1<z.heap.size;omega)).trans d0;have a9:=O (Hz.keep (E:=fun b=>(w1.heap.size<=b/\b<a.heap.size)\/(xb.heap.size<=b/\b<wb.heap.size)) ((gE L).mono (fun b h=>by have:=B.size;obtain h|h:=h;have:=h.2;omega;exact h.2)) (fun b h=>h));have f4:=L.size;have a6:=O b0;have A:=O m;clear b0 m L hC Hz
 go_upto_region 3 with(refine rA (TR t ci) zf zv zs zk zp b2 rfl rfl (.tmp 4) (.tmp 22) rfl rfl rfl ?_;intro w5 h5 e5;have H5:=O h5;have C:=O e5;clear h5 e5)
 have a0:gN (fun b=>b≠g4) w4 w5:=by rw[C];exact gK _ _ _ _
 have b8:w5.heap.size=w4.heap.size:=by rw[C,im]
 have b1:=(a0 _ (by omega)).trans a6
 have H:Below z z w5:=by rw[C];exact ig d9 _ _ A
 have d7:=O (a9.keep (E:=fun b=>(w1.heap.size<=b/\b<a.heap.size)\/(xb.heap.size<=b/\b<wb.heap.size)) (a0.mono (fun b h=>by obtain h|h:=h;have:=h.2;omega;have:=h.1;have:=h.2;omega)) (fun b h=>h));have d1:=O b1;have a3:=O H;have d5:=O b8;clear a0 b8 b1 H a9 a6 A b2 C
 go_wp2_with(first
  |(refine ww H5 rfl (.tmp 4) rfl rfl ?_)
  |(refine rA (TR t ci) zf zv zs zk zp d1 rfl rfl (.tmp 2) (.tmp 24) rfl rfl rfl ?_;intro w6 h6 e6;have H6:=O h6;have R:=O e6;clear h6 e6))
 refine ar (PI rfl rfl H6) rfl ?_
 have e0:gN (fun b=>b≠w.heap.size+1) w5 w6:=by rw[R];exact gK _ _ _ _
 have f5:w6.heap.size=w5.heap.size:=by rw[R,im]
 have d8:Below w w w6:=by rw[R];exact ig (bY _) _ _ (I d2 (a7.trans (a3.mono b7)))
 refine⟨TR t ci,zf,zv,zs,zk,zp,rfl,?_,e4,rfl,d8⟩;have f6:=Hs.out;have f0:=d5.out;have f1:z.heap.size<=wb.heap.size:=B.size;exact d7.keep (e0.mono (fun b h=>by obtain h|h:=h;have:=h.1;omega;have:=h.1;omega)) (fun b h=>by obtain h|h:=h<;>exact⟨by have:=h.1;have:=u.size;omega,by have:=h.2;omega⟩)
def Nw(n:Nat->Int):Value:=.agg #[.int .u8 (n 0),.int .u8 (n 1),.int .u8 (n 2),.int .u8 (n 3),.int .u8 (n 4),.int .u8 (n 5),.int .u8 (n 6),.int .u8 (n 7)]
def Ik(w:World)(g:Nat)(n:Nat->Int):Prop:=w.heap[g]? =some (.cells #[.int .u8 (n 0),.int .u8 (n 1),.int .u8 (n 2),.int .u8 (n 3),.int .u8 (n 4),.int .u8 (n 5),.int .u8 (n 6),.int .u8 (n 7)] 31 (0,0))
def Ik.cells{w:World}{g:Nat}{n:Nat->Int}(h:Ik w g n):w.cell? (J g)=some (.int .u8 (n 0))/\w.cell? ⟨g,1,none⟩=some (.int .u8 (n 1))/\w.cell? ⟨g,2,none⟩=some (.int .u8 (n 2))/\w.cell? ⟨g,3,none⟩=some (.int .u8 (n 3))/\w.cell? ⟨g,4,none⟩=some (.int .u8 (n 4))/\w.cell? ⟨g,5,none⟩=some (.int .u8 (n 5))/\w.cell? ⟨g,6,none⟩=some (.int .u8 (n 6))/\w.cell? ⟨g,7,none⟩=some (.int .u8 (n 7)):=
 ⟨(VV h 0).trans rfl,(VV h 1).trans rfl,(VV h 2).trans rfl,(VV h 3).trans rfl,(VV h 4).trans rfl,(VV h 5).trans rfl,(VV h 6).trans rfl,(VV h 7).trans rfl⟩
def Rv{y:gR}{D:Nat->Prop}{w:World}{f v s k:iJ}(b:iI y=true)(h:iP D w y f v s k):2<=s.n/\s.n<=16:=by
 have a:jO y 4=true:=an.1 b 4 (by decide);have h5:iW y.stop y.l=true:=a;unfold iW at h5;simp only[am]at h5;have:=h5.1.1.1.1;rw[h.l.1]at this;unfold bt at this;simp at this;omega
def Rw(D:Nat->Prop)(w:World)(y:gR)(f v s k:iJ)(e:Ending)(w':World):Prop:=
 ∃z a d zs c,e=.returned (jG z a d zs c)/\iP (fun b=>D b\/(w.heap.size<=b/\b<w'.heap.size)) w' z a d zs c/\iI z=true/\iP D w' y f v s k/\Ez D w w'
structure wB (D:Nat->Prop) (w:World) (y:gR) (f v s k:iJ) (n:Nat->Int) (g5 g14 c14 kk:Nat) (ca:Option Addr) (cn cc:Nat) (wx:World):Prop where
 l1:hU wx w 38 y f v s k
 arr:Ik wx (w+1) n
 z:wx.heap[w.heap.size+2]? =some (.cells #[ik,oZ,oZ,oZ,oZ,oN,oN,oN,oN] 38 (0,0))
 l5:hU wx g5 38 y f v ⟨some ⟨g14,0,none⟩,s.n,c14⟩ k
 row:A8 jE 22 64 (wX D ca cn cc) kk wx (.slice (J g14) s.n c14) y.l
 h5:w.heap.size+2<g5
 h14:g5<g14
 hlt:g14<wx.heap.size
 dl:∀b,D b->b<w.heap.size
 own:∀g,(Value.slice ca cn cc).ownBlock=some g->D g
 kept:gN (wX D ca cn cc) w wx
 cells:∀g,(Value.slice ca cn cc).ownBlock=some g-> ∀j,j<cn*3->wx.cell? ⟨g,j,none⟩=w.cell? ⟨g,j,none⟩
 quiet:Ez D w wx
section
variable{D:Nat->Prop}{w:World}{y:gR}{f v s k:iJ}{n:Nat->Int}{g5 g14 c14 kk:Nat}{ca:Option Addr}{cn cc:Nat}{wx wy:World}
def wB.go(h:wB D w y f v s k n g5 g14 c14 kk ca cn cc wx)(i:gN (fun b=>b<=g14/\(Value.slice ca cn cc).ownBlock≠some b) wx wy)(p:∀g,(Value.slice ca cn cc).ownBlock=some g-> ∀j,j<cn*3->wy.cell? ⟨g,j,none⟩=wx.cell? ⟨g,j,none⟩)(q:wy.os=wx.os)(t:wy.tape=wx.tape)(u:wy.output=wx.output)(r:wx.heap.size<=wy.heap.size):
 wB D w y f v s k n g5 g14 c14 kk ca cn cc wy:=by
 have h5:=h.h5;have h14:=h.h14;have hlt:=h.hlt
 have o:∀b,w.heap.size<=b->(Value.slice ca cn cc).ownBlock≠some b:=fun b a e=>by
  have:=h.dl b (h.own b e);omega
 have c:∀b,w.heap.size<=b->b<=g14->wy.heap[b]? =wx.heap[b]? :=fun b h1 h2=>i b ⟨h2,o b h1⟩
 have d:gN (wX D ca cn cc) wx wy:=i.mono (fun b a=>⟨by have:=h.dl b a.1;omega,a.2⟩);refine⟨(c _ (aa _) (by omega)).trans h.l1,(c _ (by omega) (by omega)).trans h.arr,(c _ (by omega) (by omega)).trans h.z,(c _ (by omega) (by omega)).trans h.l5,h.row.keep iD ?_ (fun b a=>a),h.h5,h.h14,by omega,h.dl,h.own,h.kept.trans d,fun g l j m=>(p g l j m).trans (h.cells g l j m),?_⟩
 .intro b a
  obtain a|a:=a
  .exact d b a
  .have e:g14=b:=by simpa[Value.ownBlock]using a
   exact c b (by omega) (by omega)
 .exact⟨q.trans h.quiet.os,t.trans h.quiet.tape,u.trans h.quiet.output,af h.quiet.size r,h.quiet.kept.trans (i.mono (fun b a=>⟨by omega,fun e=>a.2 (h.own b e)⟩))⟩
def wB.below(h:wB D w y f v s k n g5 g14 c14 kk ca cn cc wx){B:Nat}(d:g14<B)(a:Below B wx wy):wB D w y f v s k n g5 g14 c14 kk ca cn cc wy:=by
 have h5:=h.h5;have h14:=h.h14;exact h.go ((gE a).mono (fun b h=>by omega)) (fun g c j _=>a.cell (p:=⟨g,j,none⟩) (by have:=h.dl g (h.own g c);show g<B;omega)) a.os a.tape a.output a.size
def wB.set(h:wB D w y f v s k n g5 g14 c14 kk ca cn cc wx){a:Nat}(b:g14<a)(o:Nat)(u:Value):wB D w y f v s k n g5 g14 c14 kk ca cn cc (wx.setCell ⟨a,o,none⟩ u):=
 h.below b ((TH _ _).setCell (p:=⟨a,o,none⟩) (aa _) u)
structure zX (D:Nat->Prop) (w:World) (y:gR) (f v s k:iJ) (n:Nat->Int) (g5 g14 c14 kk:Nat) (ca:Option Addr) (cn cc:Nat) (wx:World):Prop where
 s:wB D w y f v s k n g5 g14 c14 kk ca cn cc wx
 k:gN (fun b=>b<w.heap.size) w wx
def zX.below(h:zX D w y f v s k n g5 g14 c14 kk ca cn cc wx){B:Nat}(c:g14<B)(a:Below B wx wy):zX D w y f v s k n g5 g14 c14 kk ca cn cc wy:=
 ⟨h.s.below c a,h.k.trans ((gE a).mono (fun b h1=>by have:=h.s.h5;have:=h.s.h14;omega))⟩
def zX.set(h:zX D w y f v s k n g5 g14 c14 kk ca cn cc wx){a:Nat}(b:g14<a)(o:Nat)(u:Value):zX D w y f v s k n g5 g14 c14 kk ca cn cc (wx.setCell ⟨a,o,none⟩ u):=
 h.below b ((TH _ _).setCell (p:=⟨a,o,none⟩) (aa _) u)
end
def rC(s:gW)(zs:List Int)(a:Option Addr)(n c:Nat)(w:World)(j:IR w w 3 a n c zs)(p:n<=1000000)(o:s.e9.size<=9223372036854775807)(b:Bool)(h:oA s zs n=b):
 Calls prog 21 #[.agg (⟨s,a,n,c⟩:jt)] w (iZ w (.int .i64 (if b then 0 else 110))):=by
 have f:=O (Y.new w s a n c);have d:=O ((TH w w).alloc (aa _) (.cells (⟨s,a,n,c⟩:jt) 64));have m:=O j;have l:=O h;clear j h;go_enter func21,ntmps21;go_upto_region 1 with fail;refine gI (fun k=>Y k w s a n c/\Below w w k) ⟨f,d⟩ ?_;clear f d;rintro q ⟨f:HQ _,d:HQ _⟩;cases b
 all_goals
  go_wp2_with(first
   |(refine gO f rfl (.tmp 1) rfl rfl ?_)
   |((with_reducible refine(lN s zs a n c _ (m.out.go d.out) p o).mono ?_);rintro e r ⟨i,g:HQ _⟩;rw[l]at i;subst i))
  go_ret;exact⟨rfl,I d g⟩
structure yD (D:Nat->Prop) (w:World) (y:gR) (f v s k:iJ) (n:Nat->Int) (g5:Nat) (z:gR) (zs zk:iJ) (wx:World):Prop where
 l1:hU wx w 38 y f v s k
 arr:Ik wx (w+1) n
 z0:wx.heap[w.heap.size+2]? =some (.cells #[ik,oZ,oZ,oZ,oZ,oN,oN,oN,oN] 38 (0,0))
 l5:hU wx g5 38 z f v zs zk
 h5:w.heap.size+2<g5
 dl:∀b,D b->b<w.heap.size
 at5:iP (fun b=>D b\/(g5<b/\b<wx.heap.size)) wx z f v zs zk
 at1:iP D wx y f v s k
 quiet:Ez D w wx
section
variable{D:Nat->Prop}{w:World}{y:gR}{f v s k:iJ}{n:Nat->Int}{g5:Nat}{z:gR}{zs zk:iJ}{wx wy:World}
def yD.below(h:yD D w y f v s k n g5 z zs zk wx)(a:Below wx wx wy):yD D w y f v s k n g5 z zs zk wy:=by
 have h5:=h.h5;have e:=h.l5.lt
 have c:∀b,D b->b<wx.heap.size:=fun b a=>by have:=h.dl b a;omega
 have d:=a.size;exact⟨(a.block _ (by omega)).trans h.l1,(a.block _ (by omega)).trans h.arr,(a.block _ (by omega)).trans h.z0,(a.block _ (by omega)).trans h.l5,h5,h.dl,h.at5.kept ((gE a).mono (fun b h=>by obtain h|h:=h;exact c b h;exact h.2)) (fun b h=>by obtain h|h:=h;exact VR h;exact VS ⟨h.1,by omega⟩),h.at1.kept ((gE a).mono c) (fun b h=>h),⟨a.os.trans h.quiet.os,a.tape.trans h.quiet.tape,a.output.trans h.quiet.output,af h.quiet.size d,h.quiet.kept.trans ((gE a).mono (fun b h=>by omega))⟩⟩
def yD.store(h:yD D w y f v s k n g5 z zs zk wx){g:gR}{d c:iJ}(m:iP (fun b=>D b\/(g5<b/\b<wx.heap.size)) wx g f v d c)(i:hU wy g5 38 g f v d c)(j:wy=wx.setCells g5 0 (iw g f v d c)):yD D w y f v s k n g5 g d c wy:=by
 have h5:=h.h5
 have e:gN (fun b=>b≠g5) wx wy:=by rw[j];exact gK _ _ _ _
 have o:wy.heap.size=wx.heap.size:=by rw[j,im]
 have a:Below g5 wx wy:=by rw[j];exact ig (aa _) _ _ (TH _ _)
 have l:∀b,D b->b≠g5:=fun b i=>by have:=h.dl b i;omega
 exact⟨(e _ (by omega)).trans h.l1,(e _ (by omega)).trans h.arr,(e _ (by omega)).trans h.z0,i,h5,h.dl,m.kept (e.mono (fun b h=>by obtain h|h:=h;exact l b h;omega)) (fun b h=>by rw[o];exact h),h.at1.kept (e.mono l) (fun b h=>h),⟨a.os.trans h.quiet.os,a.tape.trans h.quiet.tape,a.output.trans h.quiet.output,af h.quiet.size a.size,h.quiet.kept.trans (e.mono (fun b h=>by omega))⟩⟩
def yC.cn8{i:Nat}{d:Option Addr}{cn cc:Nat}{j:List jT}{q:jT}{b0 off:Nat}(a:yC D w y f v s k j i q d cn cc b0 off)(h:iI y=true):cn<=8:=by
 have b:iW y.stop y.l=true:=an.1 h 4 (by decide);unfold iW at b;simp only[am]at b;have h3:=b.1.1.2;unfold uM at h3;rw[di,du]at h3
 have g:q.y∈y.l:=by rw[<- a.eq];exact cP.2 ⟨q,aL a.at',rfl⟩
 have h5:=h3 q.y g
 have c:oA q.y.s q.y.zs (q.y.zs.length/3)=true:=by
  have:tr q.y=true:=by simpa using h5
  exact this
 unfold oA at c;simp only[am]at c;have e:pC q.y.s q.y.zs (q.y.zs.length/3) 6=true:=an.1 c.1 6 (by decide)
 have m:q.y.zs.length/3<=8:=by simpa[pC]using e
 have:=a.film.len;omega
def wB.fin{a x d:Nat}{t:Option Addr}{cn cc:Nat}{P:List jT}{q:jT}{b0 off:Nat}(h:wB D w y f v s k n g5 a x d t cn cc wx)(e:yC D w y f v s k P d q t cn cc b0 off)(h0:iP D w y f v s k){E:Nat}{s2:gW}{i:Option Addr}{fn fc:Nat}{F:List Int}
 (C:jN (fun b=>(Value.slice t cn cc).ownBlock=some b\/(E<b/\b<wx.heap.size)) wx i fn fc F)(Q:a<E)(H:fn<=1000000)(hgl:s2.e9.size<=9223372036854775807):
 yD D w y f v s k n g5 {y with l:=y.l.set d ⟨s2,F⟩} ⟨some ⟨a,0,none⟩,s.n,x⟩ k (wx.setCells a (d*22) (gX s2 i fn fc)):=by
 have h5:=h.h5;have h14:=h.h14;have hlt:=h.hlt;have m:gN (fun b=>b≠a) wx (wx.setCells a (d*22) (gX s2 i fn fc)):=gK _ _ _ _;have M:(wx.setCells a (d*22) (gX s2 i fn fc)).heap.size=wx.heap.size:=im _ _ _ _
 have A:∀b,D b->b≠a:=fun b c=>by have:=h.dl b c;omega
 have o:Below a wx (wx.setCells a (d*22) (gX s2 i fn fc)):=ig (aa _) _ _ (TH _ _);have r:gN (wX D t cn cc) w (wx.setCells a (d*22) (gX s2 i fn fc)):=h.kept.trans (m.mono (fun b c=>A b c.1))
 have L:d<y.l.length:=by rw[<- e.eq,mD];exact(TG.1 e.at').1
 have B:Ey jE 22 64 (fun b=>wX D t cn cc b\/(Value.slice t cn cc).ownBlock=some b\/(E<b/\b<wx.heap.size)) (wx.setCells a (d*22) (gX s2 i fn fc)) (.slice (J a) s.n x) (y.l.set d ⟨s2,F⟩):=by
  refine A8.set iD (h.row.keep iD (gN.refl _ _) (fun b c=>VR c)) (fun u=>?_) L ⟨i,fn,fc,rfl,C.irp.kept (gN.refl _ _) (fun b c=>VS c),H,C.none,hgl⟩
  obtain u|u|u:=u
  .exact A a u.1 rfl
  .exact A a (h.own a u) rfl
  .omega
 refine⟨(m _ (by omega)).trans h.l1,(m _ (by omega)).trans h.arr,(m _ (by omega)).trans h.z,(m _ (by omega)).trans h.l5,h5,h.dl,⟨e.fs.kept r (fun b c=>VR c.1),e.ws.kept r (fun b c=>VR c.1),?_,e.cf.kept ky r (fun b c=>VR c.1),h0.fn,h0.wn,h0.sn,h0.kn,h0.fc,h0.wc,h0.nm⟩,?_,⟨o.os.trans h.quiet.os,o.tape.trans h.quiet.tape,o.output.trans h.quiet.output,af h.quiet.size o.size,h.quiet.kept.trans (m.mono (fun b h=>by omega))⟩⟩
 .refine B.rr iD (fun b c=>?_) (VS ⟨h14,by rw[M];exact hlt⟩)
  obtain c|c|c:=c
  .exact VR c.1
  .exact VR (h.own b c)
  .exact VS ⟨by omega,by rw[M];exact c.2⟩
 .exact e.still h0 r (fun g K j N=>(m.cell (p:=⟨g,j,none⟩) (A g (h.own g K))).trans (h.cells g K j N))
end
def vd:ByteArray:=⟨#[110,101,97,114]⟩
def ve:ByteArray:=⟨#[102,97,114,45,50]⟩
def Nx{w:World}{g h:Nat}{S:Nat->Prop}{u:Int}(d:w.heap[h]? =some (.cells #[vd,Z (J g) 1 1,ve,oN] 77 (0,0)))(f:w.heap[g]? =some (.cells #[oZ,.int .i64 9,u] 74 (0,0)))(k:S g)(l:S h):
 RR oB 2 S w (J h) 2 2 [⟨vd,[0,9,u]⟩,⟨ve,[]⟩]:=by
 refine⟨rfl,aa _,fun _=>⟨h,0,rfl,l,fun i x b=>?_⟩⟩
 match i,b with
 |0,b=>
  obtain rfl:(⟨vd,[0,9,u]⟩:jd)=x:=by simpa using b
  refine⟨_,⟨some ⟨g,0,none⟩,1,1,rfl,⟨rfl,aa _,fun _=>⟨g,0,rfl,k,fun j c=>?_⟩⟩,by omega,fun e=>by(cases e),(by show vd.size<=_;decide)⟩,fun j v a=>?_⟩
  .rw[aV,VV f]
   match j,c with
   |0,_=>rfl
   |1,_=>rfl
   |2,_=>rfl
  .have c:j<2:=(TG.1 a).1
   rw[show 0+0*2+j=j by omega,VV d]
   match j,c with
   |0,_=>exact a
   |1,_=>exact a
 |1,b=>
  obtain rfl:(⟨ve,[]⟩:jd)=x:=by simpa using b
  refine⟨_,⟨none,0,0,rfl,IRp.nil _ _ _ _ _,by omega,fun _=>rfl,(by show ve.size<=_;decide)⟩,fun j v a=>?_⟩;have c:j<2:=(TG.1 a).1;rw[show 0+1*2+j=2+j by omega,VV d]
  match j,c with
  |0,_=>exact a
  |1,_=>exact a
 |i+2,b=>simp at b
section
variable{P:Program}{H:Type}{enc:TypeId×Value->H}{w:World}{base:Nat}{sp:Nat->Bool}{held:Bool}{t e:TypeId}{c:Value}{cs:List Value}
def vf(a:P.underlying t=some (.int .u8))(h:Rd enc P w base sp held t [c]):∃z,c=.int .u8 z/\og z:=by
 obtain⟨z,e,h0,h1⟩:=xz a h;refine⟨z,by simpa using e,?_⟩;simp[IntKind.min,IntKind.max,IntKind.signed,IntKind.bits]at h0 h1;unfold og;omega
def SQ(a:P.underlying t=some (.int .i8))(h:Rd enc P w base sp held t [c]):∃z,c=.int .i8 z/\tU z:=by
 obtain⟨z,e,h0,h1⟩:=xz a h;refine⟨z,by simpa using e,?_⟩;simp[IntKind.min,IntKind.max,IntKind.signed,IntKind.bits]at h0 h1;unfold tU;omega
def qQ{n:Nat}(d:P.underlying t=some (.array n e))(c:P.underlying e=some (.int .i8))(a:P.cellsOf e=1)(b:P.cellsOf t=n)(h:Rd enc P w base sp held t cs)(i:Nat)(hi:i<n):∃z,cs[i]? =some (.int .i8 z)/\tU z:=by
 obtain⟨z,e,h0,h1⟩:=OU d c a b h i hi;refine⟨z,e,?_⟩;simp[IntKind.min,IntKind.max,IntKind.signed,IntKind.bits]at h0 h1;unfold tU;omega
def Ja(a:P.underlying t=some (.int .i16))(h:Rd enc P w base sp held t [c]):∃z,c=.int .i16 z/\qD z:=by
 obtain⟨z,e,h0,h1⟩:=xz a h;refine⟨z,by simpa using e,?_⟩;simp[IntKind.min,IntKind.max,IntKind.signed,IntKind.bits]at h0 h1;unfold qD;omega
def yU{n:Nat}(d:P.underlying t=some (.array n e))(c:P.underlying e=some (.int .i16))(a:P.cellsOf e=1)(b:P.cellsOf t=n)(h:Rd enc P w base sp held t cs)(i:Nat)(hi:i<n):∃z,cs[i]? =some (.int .i16 z)/\qD z:=by
 obtain⟨z,e,h0,h1⟩:=OU d c a b h i hi;refine⟨z,e,?_⟩;simp[IntKind.min,IntKind.max,IntKind.signed,IntKind.bits]at h0 h1;unfold qD;omega
def RH(a:P.underlying t=some (.int .u16))(h:Rd enc P w base sp held t [c]):∃z,c=.int .u16 z/\Ci z:=by
 obtain⟨z,e,h0,h1⟩:=xz a h;refine⟨z,by simpa using e,?_⟩;simp[IntKind.min,IntKind.max,IntKind.signed,IntKind.bits]at h0 h1;unfold Ci;omega
end
variable{H:Type}{enc:TypeId×Value->H}{w:World}{base:Nat}{sp:Nat->Bool}{held:Bool}{cs:List Value}
def RI(h:Rd enc prog w base sp held 124 cs):∃x,Rg (fun b=>b<w.heap.size) w x cs:=by
 have hl:cs.length=22:=(DY underlying124 h).trans (by kernel_rfl)
 match cs,hl with
 |[c0,c1,c2,c3,c4,c5,c6,c7,c8,c9,c10,c11,c12,c13,c14,c15,c16,c17,c18,c19,c20,c21],_=>
  obtain⟨kind,rfl,m⟩:=vf underlying5 (iO underlying124 h 0 (ty:=5) (off:=0) (n:=1) rfl (by kernel_rfl));obtain⟨v0,E,a1⟩:=yU underlying118 underlying25 (by kernel_rfl) (by kernel_rfl) (iO underlying124 h 1 (ty:=118) (off:=1) (n:=2) rfl (by kernel_rfl)) 0 (by omega)
  obtain rfl:c1=.int .i16 v0:=by simpa using E
  obtain⟨v1,F,a2⟩:=yU underlying118 underlying25 (by kernel_rfl) (by kernel_rfl) (iO underlying124 h 1 (ty:=118) (off:=1) (n:=2) rfl (by kernel_rfl)) 1 (by omega)
  obtain rfl:c2=.int .i16 v1:=by simpa using F
  obtain⟨k0,A,T⟩:=yU underlying118 underlying25 (by kernel_rfl) (by kernel_rfl) (iO underlying124 h 2 (ty:=118) (off:=3) (n:=2) rfl (by kernel_rfl)) 0 (by omega)
  obtain rfl:c3=.int .i16 k0:=by simpa using A
  obtain⟨k1,B,W⟩:=yU underlying118 underlying25 (by kernel_rfl) (by kernel_rfl) (iO underlying124 h 2 (ty:=118) (off:=3) (n:=2) rfl (by kernel_rfl)) 1 (by omega)
  obtain rfl:c4=.int .i16 k1:=by simpa using B
  obtain⟨h0,u,P⟩:=qQ underlying120 underlying119 (by kernel_rfl) (by kernel_rfl) (iO underlying124 h 3 (ty:=120) (off:=5) (n:=4) rfl (by kernel_rfl)) 0 (by omega)
  obtain rfl:c5=.int .i8 h0:=by simpa using u
  obtain⟨h1,v,Q⟩:=qQ underlying120 underlying119 (by kernel_rfl) (by kernel_rfl) (iO underlying124 h 3 (ty:=120) (off:=5) (n:=4) rfl (by kernel_rfl)) 1 (by omega)
  obtain rfl:c6=.int .i8 h1:=by simpa using v
  obtain⟨h2,y,R⟩:=qQ underlying120 underlying119 (by kernel_rfl) (by kernel_rfl) (iO underlying124 h 3 (ty:=120) (off:=5) (n:=4) rfl (by kernel_rfl)) 2 (by omega)
  obtain rfl:c7=.int .i8 h2:=by simpa using y
  obtain⟨h3,z,S⟩:=qQ underlying120 underlying119 (by kernel_rfl) (by kernel_rfl) (iO underlying124 h 3 (ty:=120) (off:=5) (n:=4) rfl (by kernel_rfl)) 3 (by omega)
  obtain rfl:c8=.int .i8 h3:=by simpa using z
  obtain⟨p0,C,X⟩:=qQ underlying121 underlying119 (by kernel_rfl) (by kernel_rfl) (iO underlying124 h 4 (ty:=121) (off:=9) (n:=2) rfl (by kernel_rfl)) 0 (by omega)
  obtain rfl:c9=.int .i8 p0:=by simpa using C
  obtain⟨p1,D,a0⟩:=qQ underlying121 underlying119 (by kernel_rfl) (by kernel_rfl) (iO underlying124 h 4 (ty:=121) (off:=9) (n:=2) rfl (by kernel_rfl)) 1 (by omega)
  obtain rfl:c10=.int .i8 p1:=by simpa using D
  obtain⟨order,rfl,j⟩:=SQ underlying119 (iO underlying124 h 5 (ty:=119) (off:=11) (n:=1) rfl (by kernel_rfl));obtain⟨tx,rfl,k⟩:=Ja underlying25 (iO underlying124 h 6 (ty:=25) (off:=12) (n:=1) rfl (by kernel_rfl));obtain⟨e9,rfl,i⟩:=vf underlying5 (iO underlying124 h 7 (ty:=5) (off:=13) (n:=1) rfl (by kernel_rfl));obtain⟨i6,rfl,o⟩:=vf underlying5 (iO underlying124 h 8 (ty:=5) (off:=14) (n:=1) rfl (by kernel_rfl));obtain⟨i7,rfl,l⟩:=vf underlying5 (iO underlying124 h 9 (ty:=5) (off:=15) (n:=1) rfl (by kernel_rfl));obtain⟨b0,p,H⟩:=qQ underlying122 underlying119 (by kernel_rfl) (by kernel_rfl) (iO underlying124 h 10 (ty:=122) (off:=16) (n:=5) rfl (by kernel_rfl)) 0 (by omega)
  obtain rfl:c16=.int .i8 b0:=by simpa using p
  obtain⟨b1,q,K⟩:=qQ underlying122 underlying119 (by kernel_rfl) (by kernel_rfl) (iO underlying124 h 10 (ty:=122) (off:=16) (n:=5) rfl (by kernel_rfl)) 1 (by omega)
  obtain rfl:c17=.int .i8 b1:=by simpa using q
  obtain⟨b2,r,L⟩:=qQ underlying122 underlying119 (by kernel_rfl) (by kernel_rfl) (iO underlying124 h 10 (ty:=122) (off:=16) (n:=5) rfl (by kernel_rfl)) 2 (by omega)
  obtain rfl:c18=.int .i8 b2:=by simpa using r
  obtain⟨b3,s,M⟩:=qQ underlying122 underlying119 (by kernel_rfl) (by kernel_rfl) (iO underlying124 h 10 (ty:=122) (off:=16) (n:=5) rfl (by kernel_rfl)) 3 (by omega)
  obtain rfl:c19=.int .i8 b3:=by simpa using s
  obtain⟨b4,t,N⟩:=qQ underlying122 underlying119 (by kernel_rfl) (by kernel_rfl) (iO underlying124 h 10 (ty:=122) (off:=16) (n:=5) rfl (by kernel_rfl)) 4 (by omega)
  obtain rfl:c20=.int .i8 b4:=by simpa using t
  obtain⟨d,f,e,g⟩:=AQ underlying24 underlying5 (by kernel_rfl) (iO underlying124 h 11 (ty:=24) (off:=21) (n:=1) rfl (by kernel_rfl))
  obtain rfl:c21=.slice d.a d.n d.c:=by simpa using e
  exact⟨⟨kind,v0,v1,k0,k1,h0,h1,h2,h3,p0,p1,order,tx,e9,i6,i7,b0,b1,b2,b3,b4,f⟩,_,_,_,rfl,g,⟨m,a1,a2,T,W,P,Q,R,S,X,a0,j,k,i,o,l,H,K,L,M,N⟩⟩
def RJ(h:Rd enc prog w base sp held 166 cs):∃x,Rp (fun b=>b<w.heap.size) w x cs:=by
 have a:cs.length=3:=(DY underlying166 h).trans (by kernel_rfl)
 match cs,a with
 |[c0,c1,c2],_=>
  obtain⟨s,rfl,d⟩:=vf underlying5 (iO underlying166 h 0 (ty:=5) (off:=0) (n:=1) rfl (by kernel_rfl));obtain⟨q,rfl,c⟩:=vf underlying5 (iO underlying166 h 1 (ty:=5) (off:=1) (n:=1) rfl (by kernel_rfl));obtain⟨v,rfl,e⟩:=Ja underlying25 (iO underlying166 h 2 (ty:=25) (off:=2) (n:=1) rfl (by kernel_rfl));exact⟨⟨s,q,v⟩,rfl,d,c,e⟩
def Qc(h:Rd enc prog w base sp held 164 cs):∃x,JA (fun b=>b<w.heap.size) w x cs:=by
 obtain⟨p,l,rfl,a⟩:=I9 (m:=3) underlying164 (by kernel_rfl) (by omega) (fun c d h2=>RJ h2) h;exact⟨l,_,_,_,rfl,a⟩
def RK(h:Rd enc prog w base sp held 28 cs):∃x s f v k,cs=lI x s f v k/\xU (fun b=>b<w.heap.size) w x s f v k:=by
 have B:cs.length=9:=(DY underlying28 h).trans (by kernel_rfl)
 match cs,B with
 |[c0,c1,c2,c3,c4,c5,c6,c7,c8],_=>
  obtain⟨o,E,z,L⟩:=I9 (m:=22) underlying22 (by kernel_rfl) (by omega) (fun r t h2=>RI h2) (iO underlying28 h 0 (ty:=22) (off:=0) (n:=1) rfl (by kernel_rfl))
  obtain rfl:c0=.slice o.a o.n o.c:=by simpa using z
  obtain⟨stop,rfl,i⟩:=vf underlying5 (iO underlying28 h 1 (ty:=5) (off:=1) (n:=1) rfl (by kernel_rfl));obtain⟨far,rfl,q⟩:=RH underlying23 (iO underlying28 h 2 (ty:=23) (off:=2) (n:=1) rfl (by kernel_rfl));obtain⟨p9,rfl,e⟩:=vf underlying5 (iO underlying28 h 3 (ty:=5) (off:=3) (n:=1) rfl (by kernel_rfl));obtain⟨j,C,u,H⟩:=AQ underlying24 underlying5 (by kernel_rfl) (iO underlying28 h 4 (ty:=24) (off:=4) (n:=1) rfl (by kernel_rfl))
  obtain rfl:c4=.slice j.a j.n j.c:=by simpa using u
  obtain⟨p,F,A,M⟩:=AQ underlying24 underlying5 (by kernel_rfl) (iO underlying28 h 5 (ty:=24) (off:=5) (n:=1) rfl (by kernel_rfl))
  obtain rfl:c5=.slice p.a p.n p.c:=by simpa using A
  obtain⟨i4,rfl,g⟩:=vf underlying5 (iO underlying28 h 6 (ty:=5) (off:=6) (n:=1) rfl (by kernel_rfl));obtain⟨t7,rfl,d⟩:=Ja underlying25 (iO underlying28 h 7 (ty:=25) (off:=7) (n:=1) rfl (by kernel_rfl));obtain⟨l,D,y,K⟩:=I9 (m:=1) underlying26 (by kernel_rfl) (by omega) (fun r t h2=>Qc h2) (iO underlying28 h 8 (ty:=26) (off:=8) (n:=1) rfl (by kernel_rfl))
  obtain rfl:c8=.slice l.a l.n l.c:=by simpa using y
  exact⟨⟨E,stop,far,p9,C,F,i4,t7,D⟩,o,j,p,l,rfl,⟨L,H,M,K,i,q,e,g,d⟩⟩
def SR(h:Rd enc prog w base sp held 30 cs):∃x c s f v k,cs=qd x c s f v k/\xU (fun b=>b<w.heap.size) w x s f v k/\og c:=by
 have a:cs.length=10:=(DY underlying30 h).trans (by kernel_rfl)
 match cs,a with
 |[c0,c1,c2,c3,c4,c5,c6,c7,c8,c9],_=>
  have g:=RK (cs:=[c0,c1,c2,c3,c4,c5,c6,c7,c8]) (iO underlying30 h 0 (ty:=28) (off:=0) (n:=9) rfl (by kernel_rfl));obtain⟨c,rfl,d⟩:=vf underlying5 (iO underlying30 h 1 (ty:=5) (off:=9) (n:=1) rfl (by kernel_rfl));obtain⟨x,s,f,v,k,el,e⟩:=g;refine⟨x,c,s,f,v,k,?_,e,d⟩
  show[c0,c1,c2,c3,c4,c5,c6,c7,c8]++[.int .u8 c]=_
  rw[el];rfl
def Qd:∀zs:List Int,zs.length=8->(∀z∈zs,IntKind.u8.has z)-> ∃n:Nat->Int,Value.agg (zs.map (Value.int .u8)).toArray=Nw n/\ ∀i,og (n i)
 |[z0,z1,z2,z3,z4,z5,z6,z7],_,h=>by
  have a:∀z∈ [z0,z1,z2,z3,z4,z5,z6,z7],og z:=fun z b=>by
   have:=h z b;simp[IntKind.has,IntKind.min,IntKind.max,IntKind.signed,IntKind.bits]at this;unfold og;omega
  refine⟨fun i=>match i with|0=>z0|1=>z1|2=>z2|3=>z3|4=>z4|5=>z5|6=>z6|7=>z7|_=>0,rfl,fun i=>?_⟩
  match i with
  |0=>exact a _ (by simp)
  |1=>exact a _ (by simp)
  |2=>exact a _ (by simp)
  |3=>exact a _ (by simp)
  |4=>exact a _ (by simp)
  |5=>exact a _ (by simp)
  |6=>exact a _ (by simp)
  |7=>exact a _ (by simp)
  |_+8=>exact(⟨by omega,by omega⟩:og 0)
