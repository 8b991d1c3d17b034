import Derived.Test.YtgohdcccfkjooaaGreatDoorQBH
namespace Go.Proofs.YtgohdcccfkjooaaGreatDoor
set_option linter.all false
set_option maxRecDepth 100000
set_option maxHeartbeats 1600000
open Go.Proofs.Tryz Go.RowKit
def Oe{W:World}{b}(d e f:Nat)(a:W.heap[b]? =some (.cells #[.int .i64 (d:Int),.int .i64 (e:Int),.int .i64 (f:Int)] 3 (0,0))):SL W W (J b) 3 3 ([d,e,f].map fun(x:Nat)=>(x:Int)):=by
 refine⟨rfl,aa _,fun _=>⟨b,0,rfl,TK a,fun j c=>?_⟩⟩
 match j,c with
 |0,_=>exact gA a 0
 |1,_=>exact gA a 1
 |2,_=>exact gA a 2
 |j+3,c=>omega
def Tryz.zeroPar(w):(zeroValue 116).run prog w=.ok (.agg #[.string {data:=#[]},oZ,.nilFunc]) w:=by kernel_rfl
def my.upd{B}{D:Nat->Prop}{a W W' c p m l seen l0 y css q i cap d j}(h:my B D a c p m l seen l0 y css q i cap d)(f:Below a a W)(s:oC W' d ((seen.map bs)++[bs j]))(o:W.grownBy W' (some d))(n:B<=a.heap.size):
 my B D W' c p m l (seen++[j]) l0 y css q i cap d/\(∀b,b<a.heap.size->b≠d->W'.heap[b]? =a.heap[b]?)/\Below B a W':=by
 have r:∀b,b<a.heap.size->b≠d->W'.heap[b]? =a.heap[b]? :=fun b h1 h2=>(o.block b (ab h1 f.size) (fun e=>h2 (by cases e;rfl))).trans (f.block b h1)
 have g:Below B a W':=(f.mono n).grown o (af n f.size) (fun k e=>by cases e;exact h.bmB);exact⟨h.mapSet r g.size (by rw[aT];exact s),r,g⟩
def mp{ops a g c w}{Q:Exit->Act->World->Prop}{b}{u x z0 f:Value}{s:ByteArray}{d:Int}(e:w.heap[b]? =some (.cells #[u,x,z0] 116 (0,0)))(hf:f.oneCell'=true)(k:g.guard=none)(p q:Operand)(o:g.op=.store 116 p q)(r:c.eval p=.pointer (J b))(t:c.eval q=.agg #[s,d,f])(n:∀w',w'.heap[b]? =some (.cells #[s,d,f] 116 (0,0))->(∀B w0,B<=b->Below B w0 w->Below B w0 w')->wpList prog ops Q a (c.put g.dst undef) w'):wpList prog ops Q (g::a) c w:=by
 refine wpList_store_mid k 116 p q o b 0 #[s,d,f] r t (fun j i=>?_) Tryz.infoPar (all_oneCell_toArray (cs:=[.string s,.int .i64 d,f]) (by intro v l;simp only[aS,bi,cR]at l;obtain rfl|rfl|rfl:=l;rfl;rfl;exact hf)) ?_
 .match j,i with
  |0,_=>simp[World.cell?,World.frozen?,e]
  |1,_=>simp[World.cell?,World.frozen?,e]
  |2,_=>simp[World.cell?,World.frozen?,e]
  |j+3,i=>simp at i;omega
 .refine n _ ?_ (fun B w0 m h=>?_)
  .have:=tH e 0 [s,d,f] (by simp)
   simpa using this
  .exact ig m _ _ h
def L4(a):∃(nm:List UInt8)(d:Nat)(F:Value),(yE a).getD (.agg #[.string {data:=#[]},oZ,.nilFunc])=.agg #[.string (bs nm),.int .i64 (d:Int),F]/\((yE a).isSome=true->kO.findIdx? (· ==a)=none/\ ∃b off,F=.func (.func b) #[] #[]/\DN b off d a)/\((yE a).isSome=false->a≠lB/\a≠kj)/\F.oneCell'=true:=by
 by_cases h1:a=lB
 .subst h1
  exact⟨lB,6,_,rfl,fun _=>⟨by decide,_,15,rfl,Ax⟩,(fun h=>by cases h),rfl⟩
 .by_cases h2:a=kj
  .subst h2
   exact⟨kj,0,_,rfl,fun _=>⟨by decide,_,11,rfl,yq⟩,(fun h=>by cases h),rfl⟩
  .have:yE a=none:=by unfold yE;rw[aj h1,aj h2]
   rw[this];exact⟨[],0,.nilFunc,rfl,(fun h=>by cases h),(fun _=>⟨h1,h2⟩),rfl⟩
def L6{B g cc A n c N}{D:Nat->Prop}{r W}{d:List UInt8}{ws}(h:vM B g 7 cc D r W)(hat:r.at_=7)(hw:ua W (J A) n c (d::ws) W)(hl:∀s∈d::ws,s.length<=100000)(hn:ws.length<=100000)(hc:cc<=100001)(hB:B<=W.heap.size)(hg:GW W)(hT:TW N W)(i0:N<=B):
 Calls prog 91 #[U g,Z (J A) n c] W (iE B g 7 cc D (lX r d ws) W):=by
 have c8:Below W W W.drew:=⟨rfl,rfl,rfl,aa _,fun _ _=>rfl⟩;have g3:=sV hw c8;obtain⟨f,v,s,k,m,hA,hL⟩:=h.go c8;have q0:=hL.gB
 obtain ⟨h7,_⟩|⟨_,l0,y,css,q,bb,cap,bm,hS⟩|⟨h7,_⟩:=hL.l.2
 .omega
 .have e1:=hS.ep
  have e2:=hS.em;subst e1;subst e2;have c7:W.drew.cell? ⟨g,7,none⟩=some (.slice (J bb) (l0.length+1) cap):=(hA.cell 7).1;have f8:g<W.drew.heap.size:=TK hA
  have o7:l0.length+1<=cap:=by
   obtain ⟨e,_⟩|⟨g',o4,p3,e,_,_,h3,_⟩:=hS.row.2
   .cases e
   .cases e;exact h3
  have q3:l0.length<=100001:=by have:=hL.l.1;have:l0.length+1<=cc:=this;omega
  have e4:n=ws.length+1:=by have:=hw.1;simp at this;omega
  subst e4;have p8:ws.length+1<=c:=hw.2.1
  have a5:W.drew.cell? (J A)=some (.string (bs d)):=by
   obtain⟨g',off,e,_,h3⟩:=g3.2.2 (by omega);cases e;exact h3 0 d rfl
  have e3:A<W.drew.heap.size:=by
   obtain⟨g',off,e,h3,_⟩:=g3.2.2 (by omega);cases e;exact h3
  have HA:=O hA;have HL:=O hL;have H:=O hS;have Hw:=O g3;have Hl:=O hl;have Hg:=O (hg.below c8);have HT:=O (hT.below (c8.mono (af i0 hB)));have Hd:=O c8;have Hn:=O hn;have e8:=O hat;have m9:B<=W.drew.heap.size:=hB;clear hA hL hS g3 hl hg hT c8 hw h hn hat
  go_enter func91,ntmps91
  go_upto_region 0 with fail
  refine gS 13 [(0,true),(1,true),(2,true),(3,true),(4,true),(5,true),(6,true),(7,true),(8,true),(9,true),(10,true),(11,true),(12,true)] (by kernel_rfl) (by kernel_rfl) ?_;have g7:IntKind.i64.wrap (l0.length:Int)=(l0.length:Int):=TM _ (by omega)
  iterate 11
   refine gU (v:=?_) rfl (fun _ _ _ h=>h) (by rfl) ?_ ?_;rotate_left
   .intro y t
    have k1:=(t.cell (p:=⟨g,7,none⟩) f8).trans c7;go_simp
    with_reducible rfl
   try simp only[V]
  iterate 2
   refine gU (v:=?_) rfl (fun _ _ _ h=>h) (by rfl) ?_ ?_;rotate_left
   .intro y t
    go_simp
    try rw[g7]
    try rw[aq (show(l0.length:Int) <(l0.length:Int)+1 by omega)]
    try with_reducible rfl
   try simp only[V]
  refine iu rfl ?_
  by_cases hf:d=lG
  .subst hf
   have hq:(bs lG==({data:=#[102,105,108,109]}:ByteArray))=true:=by decide
   have c0:Below W.drew W.drew (W.alloc (.cells #[.int .i64 ((7:Nat):Int),.int .i64 ((0:Nat):Int),.int .i64 ((0:Nat):Int)] 3)).drew:=(TH W.drew W.drew).alloc (aa _) (.cells #[.int .i64 ((7:Nat):Int),.int .i64 ((0:Nat):Int),.int .i64 ((0:Nat):Int)] 3);have j5:(W.alloc (.cells #[.int .i64 ((7:Nat):Int),.int .i64 ((0:Nat):Int),.int .i64 ((0:Nat):Int)] 3)).drew.heap[W.heap.size]? =some (.cells #[.int .i64 ((7:Nat):Int),.int .i64 ((0:Nat):Int),.int .i64 ((0:Nat):Int)] 3 (0,0)):=TL W _
   by_cases n6:c=1
   .subst n6
    obtain rfl:ws=[]:=aX.1 (by omega)
    go_wp2_with fail
    refine(sS [] [7,0,0] _ _ 0 3 _ 3 _ ⟨rfl,aa _,fun h0=>absurd h0 (by omega)⟩ (Oe 7 0 0 j5) (by omega) (by omega) (fun s hs=>by cases hs) (by decide) (Hg.below c0)).mono ?_;rintro e w2 M;have Q:kF [] [7,0,0]=none:=rfl;unfold mu at M;rw[Q]at M;obtain⟨rfl,a1⟩:=M;have hb:iE B g 7 cc D (lX r lG []) W iX w2:=iE.bad (by rw[sW H.el,Q];rfl) (Hd.trans (I c0 a1)) (by omega);have P:=hb;clear hb Q a1 c0 c7 a5 hq;unfold iX at P⊢;have b7:=O P;clear P
    go_wp2_with fail
    exact⟨rfl,b7⟩
   .go_wp2_with fail
    refine(sS ws [7,0,0] _ _ ws.length 3 _ 3 _ (sV (Ay Hw) c0) (Oe 7 0 0 j5) (by have:=Hn.out;omega) (by omega) (fun s hs=>Hl s (au _ hs)) (by decide) (Hg.below c0)).mono ?_;rintro e w2 M;have b5:=O c0;clear c0 hq
    cases Q:kF ws [7,0,0]with
    |none=>
     unfold mu at M;rw[Q]at M;obtain⟨rfl,a1⟩:=M;have hb:iE B g 7 cc D (lX r lG ws) W iX w2:=iE.bad (by rw[sW H.el,Q];rfl) (Hd.trans (I b5 a1)) (by omega);have P:=hb;clear hb Q a1 b5 c7 a5;unfold iX at P⊢;have b7:=O P;clear P
     go_wp2_with fail
     exact⟨rfl,b7⟩
    |some zs=>
     have hz:=qj _ _ _ Q;unfold mu at M;rw[Q]at M;obtain⟨⟨a2,c2,rfl,hs,n8⟩,a1⟩:=M
     obtain⟨z0,z1,z2,rfl⟩:∃z0 z1 z2,zs=[z0,z1,z2]:=by
      have:zs.length=3:=by rw[hz.1,hz.2];rfl
      match zs,this with
      |[x,y,z],_=>exact⟨x,y,z,rfl⟩
     obtain⟨b,off,rfl,k6,f5⟩:=hs.at (by show 0<3;omega)
     have p6:W.heap.size<b:=by have:=n8 b rfl;simp at this;omega
     have n0:w2.cell? ⟨b,off,none⟩=some (.int .i64 z0):=f5 0 (by show 0<3;omega);have n1:w2.cell? ⟨b,off+1,none⟩=some (.int .i64 z1):=f5 1 (by show 1<3;omega);have n2:w2.cell? ⟨b,off+2,none⟩=some (.int .i64 z2):=f5 2 (by show 2<3;omega);have p7:3<=c2:=hs.2.1;have hA:=HA.go (I b5 a1);have hL:=HL.go (I b5 a1);have hS:=H.go (I b5 a1)
     have hr:lX r lG ws=some ⟨{r.x with l:=l0++[⟨y.s,y.zs++[z0,z1,z2]⟩]},7,r.seen⟩:=by rw[sW hS.el,Q];rfl
     have o8:=TK hA;have n5:=hS.bbB;obtain⟨cg,fg⟩:=hS.cell (show 21<22 by omega)
     change w2.cell? ⟨bb,l0.length*22+21,none⟩=some (.slice q.a q.n q.c)at cg
     have o2:=hS.qn
     have l4:∀b,q.v.ownBlock=some b->b<W.drew.heap.size:=fun b e=>(gT H.coat.row e).2
     have Hr:=O hr;have Hb:=O (Hd.trans (I b5 a1));have l6:=O hA;have l8:=O hL;have l9:=O hS;have m4:=O l4;have o6:=H.bbB.2
     have p5:B<=w2.heap.size:=by have:=(I b5 a1).size;omega
     clear hr hA hL hS a1 Q hz f5 hs b5 Hw HA HL H c7 a5 l4;obtain⟨qa,qn,qc⟩:=q
     change w2.cell? ⟨bb,l0.length*22+21,none⟩=some (.slice qa qn qc)at cg
     change qn<=cc at o2
     go_upto_region 3 with fail
     refine kC (S:=fun x=>x=bb\/x=b) 17 [(0,true),(1,true),(2,true),(3,true),(4,true),(5,true),(6,true),(7,true),(8,true),(9,true),(10,true),(11,true),(12,true),(13,true),(14,true),(15,false),(16,false)] (by kernel_rfl) (by kernel_rfl) ?_
     iterate 15
      refine kQ (v:=?_) rfl (fun _ _ _ h=>h) (by rfl) ?_ ?_;rotate_left
      .intro y t
       have k1:=(t.cell (p:=⟨bb,l0.length*22+21,none⟩) (Or.inl rfl)).trans cg;have k2:=(t.cell (p:=⟨b,off,none⟩) (Or.inr rfl)).trans n0;have k3:=(t.cell (p:=⟨b,off+1,none⟩) (Or.inr rfl)).trans n1;have k4:=(t.cell (p:=⟨b,off+2,none⟩) (Or.inr rfl)).trans n2;go_simp
       with_reducible rfl
      try simp only[V]
     refine iT rfl rfl (fun K hK=>?_);go_simp;refine hK _ _ (fun x hx=>iC (by obtain rfl|rfl:=hx;exact n5.2;exact k6)) ?_;clear hK K
     try simp only[V]
     have a0:Below w2 w2 (w2.drew.alloc (.cells [Value.int .i64 z0,.int .i64 z1,.int .i64 z2].toArray 67)):=gY ((TH _ _).drew);have h6:=l6.go a0;have j7:=l8.go a0;have c6:=l9.go a0;have i8:=ab k6 a0.size
     have m8:B<=(w2.drew.alloc (.cells [Value.int .i64 z0,.int .i64 z1,.int .i64 z2].toArray 67)).heap.size:=by have:=a0.size;omega
     have o9:=TK h6;have f2:=c6.bbB;refine iT rfl rfl (fun K hK=>?_);refine nR underlying68 Tryz.infoFilm3 rfl (by omega) (by omega) _ _ rfl B _ (.slice qa qn qc) qn w2 _ [.int .i64 z0,.int .i64 z1,.int .i64 z2] rfl c6.coat.row (TL w2.drew _) rfl rfl (by simp[Value.oneCell']) (by omega) m8 ?_;intro g2 o5 w g0 f7 n9;have f9:(Value.slice qa qn qc).ownBlock≠some bb:=c6.ne.1
     have i9:(Value.slice qa qn qc).ownBlock≠some b:=fun e=>by have h9:b<W.heap.size:=m4 b e;omega
     refine hK _ _ (fun x hx=>f7.kept x (by obtain rfl|rfl:=hx;exact f2.2;exact i8) (by obtain rfl|rfl:=hx;exact f9;exact i9)) ?_;clear hK K
     have g6:w.cell? ⟨bb,l0.length*22+21,none⟩=some (.slice qa qn qc)/\w.frozen? ⟨bb,l0.length*22+21,none⟩=false:=by
      have hk:=f7.kept bb f2.2 f9;obtain⟨q1,q2⟩:=c6.cell (show 21<22 by omega);exact⟨by simp only[World.cell?,hk];exact q1,by simp only[World.frozen?,hk];exact q2⟩
     obtain⟨j3,m5⟩:=g6;have HA:=O h6;have HL:=O j7;have H:=O c6;have Hb:=O (I Hb a0);have i4:=O g0;have m1:=O f7;clear h6 j7 c6 a0 g0 f7 cg fg n0 n1 n2
     try simp only[V]
     refine nK rfl ?_
     go_wp2_with fail
     go_end0;exact ID Hr e8 Hb HA HL H i4 m1 n9 hB hc
  .have p9:(d==[102,105,108,109])=false:=by rw[ak];exact hf
   obtain⟨c5,p4⟩:=HA.cell 10
   change W.drew.cell? ⟨g,10,none⟩=some (.map (some bm))at c5
   have i6:bm<W.drew.heap.size:=H.map.lt;have Hf:=O hf;clear hf
   go_upto_region 4 with fail
   by_cases h1:ws.length=1
   .obtain⟨F,rfl⟩:∃F,ws=[F]:=by
     match ws,h1 with
     |[x],_=>exact⟨x,rfl⟩
    have e9:=O (JQ d r.seen)
    have h5:W.drew.cell? ⟨A,1,none⟩=some (.string (bs F)):=by
     obtain⟨g',off,e,_,h3⟩:=Hw.2.2 (by simp);cases e;exact h3 1 F rfl
    have d4:=O H.map;refine gS 14 [(0,true),(1,true),(2,true),(3,true),(4,true),(5,true),(6,true),(7,true),(8,true),(9,true),(10,true),(11,true),(12,true),(13,true)] (by kernel_rfl) (by kernel_rfl) ?_
    iterate 14
     refine gU (v:=?_) rfl (fun _ _ _ h=>h) (by rfl) ?_ ?_;rotate_left
     .intro y t
      have k1:=(t.cell (p:=⟨g,10,none⟩) f8).trans c5;have k2:=(t.cell (p:=J A) e3).trans a5;have k3:=tO underlying126 underlying9 (Tryz.zeroBool y) (d4.block (t.block bm i6)) (bs d);go_simp
      with_reducible rfl
     try simp only[V]
    refine iu rfl ?_
    by_cases d2:d∈r.seen
    .have k9:rx (bs d) (r.seen.map bs)=true:=by rw[e9];exact aP d2
     have hb:iE B g 7 cc D (lX r d [F]) W iX W.drew.drew:=iE.bad (IH Hf d2) Hd.drew (by omega);have P:=hb;clear hb d2 c5 a5 h5 c7;unfold iX at P;have b7:=O P;clear P
     go_wp2_with fail
     refine(lm _).mono ?_;rintro e w ⟨rfl,rfl⟩;unfold iX
     go_wp2_with fail
     exact⟨rfl,b7⟩
    .have k9:rx (bs d) (r.seen.map bs)=false:=by rw[e9];exact aw d2
     have c4:=O d2;clear d2
     go_wp2_with fail
     refine(kW _).mono ?_;rintro e w ⟨rfl,rfl⟩
     go_upto_region 5 with fail
     refine gS 7 [(0,true),(1,true),(2,true),(3,true),(4,true),(5,true),(6,true)] (by kernel_rfl) (by kernel_rfl) ?_
     iterate 7
      refine gU (v:=?_) rfl (fun _ _ _ h=>h) (by rfl) ?_ ?_;rotate_left
      .intro y t
       have k1:=(t.cell (p:=⟨g,10,none⟩) f8).trans c5;have k2:=(t.cell (p:=J A) e3).trans a5;go_simp
       with_reducible rfl
      try simp only[V]
     refine iu rfl ?_
     have j6:A≠bm:=fun e=>by
      obtain⟨es,l5,hm,_⟩:=d4;rw[e,World.cell?,hm]at a5;cases a5
     have o0:g≠bm:=fun e=>by have:=H.bmB;omega
     refine qV underlying126 underlying9 rfl (.tmp 67) (.tmp 70) (.const (.bool true)) rfl (b:=bm) (ks:=r.seen.map bs) d4 (bs d) k9 rfl rfl rfl ?_;intro w k8 k0;obtain⟨j8,k5,f3⟩:=H.upd (by exact⟨rfl,rfl,rfl,aa _,fun _ _=>rfl⟩) k8 k0 m9;have e7:=O j8;have b8:=O k5;have X:=O f3;clear k8 k0 j8 k5 f3;have i5:jm w g r.x 7 f v ⟨some ⟨bb,0,none⟩,l0.length+1,cap⟩ k (.map (some bm)):=(b8 g f8 o0).trans HA;have g1:=X.size
     have f0:w.cell? (J A)=some (.string (bs d)):=by rw[<- a5];simp only[World.cell?,b8.out A e3 j6]
     have j4:w.cell? ⟨A,1,none⟩=some (.string (bs F)):=by rw[<- h5];simp only[World.cell?,b8.out A e3 j6]
     have T:A<w.heap.size:=ab e3 g1;have d8:=O (HT.below (X.mono i0));have j2:=O (Hg.of (X.mono i0) HT.glo)
     have l2:∀W',Below w w W'->lX r d [F]=none->iE B g 7 cc D (lX r d [F]) W iX W':=fun W' hb hr=>II hr (fun b h1 h2=>(hb.block b (ab h1 g1)).trans (b8 b h1 h2)) (Hd.mono hB|>.trans (X.trans (hb.mono (by omega)))) H.dbm (by omega)
     have g9:=O l2;clear i5 c7 c5 a5 h5 l2
     by_cases hgl:d=lP
     .subst hgl
      have hr:lX r lP [F]=some ⟨{r.x with l:=l0++[⟨{y.s with glass:=bs F},y.zs⟩]},7,r.seen++[lP]⟩:=by rw[nS H.el Hf c4,aq rfl]
      obtain⟨j3,m5⟩:=e7.cell (show 13<22 by omega)
      change w.cell? ⟨bb,l0.length*22+13,none⟩=some (.string y.s.glass)at j3
      have Hr:=O hr;clear hr
      go_wp2_with fail
      go_end0;exact mf (xr Hr e8 HA HL H b8 X e7.map (off:=13) (by omega) rfl (by show(bs F).size<=_;rw[Tb];have:=Hl F (by simp);omega) hc) Hd (by omega)
     .have f6:(d==[103,108,97,115,115])=false:=by rw[ak];exact hgl
      obtain⟨o3,d0,F0,hO,d3,d1,h8⟩:=L4 d;obtain⟨ob,ol,o1,p0,l1,c9⟩:=d8.oth
      have j0:ob<w.heap.size:=by omega
      have n3:3<w.heap.size:=ab (ab (show 3<14 by decide) HT.glo) (by omega)
      have k7:∀y,Below w w y->(Instr.lookup 176 (.map (some ob)) (.string (bs d)) true).run prog y=.ok (.tuple #[.agg #[.string (bs o3),.int .i64 (d0:Int),F0],.bool (yE d).isSome]) y:=fun y t=>by
       rw[mM underlying176 underlying9 (Tryz.zeroPar y) (l1.block (t.block ob j0)) d true,c9 d,hO];rfl
      have c3:=O hgl;have g5:=O d3;have g4:=O d1;have m2:=O k7;clear hgl hO d3 d1 l1 c9 k7 f6;generalize(yE d).isSome=ok0 at*
      have f6:(d==[103,108,97,115,115])=false:=by rw[ak];exact c3
      go_upto_region 8 with fail
      refine ic 9 [7] [(8,6,.cells #[.string {data:=#[]},oZ,.nilFunc] 116)] [(0,true),(1,true),(2,true),(3,true),(4,true),(5,true),(6,true),(7,true)] (by kernel_rfl) (by kernel_rfl) ⟨by simp,by simp,by(simp only[ct];exact⟨⟨by omega,_,rfl,rfl,rfl,fun _ _=>rfl⟩,fun _ h=>by cases h⟩)⟩ (fun _ _ _ _ _ h=>h) (fun _ _ o _ _ h=>by cases o<;>exact h) ?_
      iterate 7
       refine gZ (v:=?_) rfl rfl (by rfl) ?_ ?_;rotate_left
       .intro y t
        have k1:=(t.cell (p:=J 3) n3).trans o1;have k2:=(t.cell (p:=J A) T).trans f0;have k3:=m2 y (gJ (k:=1) t);go_simp
        with_reducible rfl
       try simp only[V]
      iterate 1
       refine iy (v:=?_) rfl (by rfl) ?_ ?_;rotate_left
       .intro y
        go_simp
        with_reducible rfl
       try simp only[V]
      refine nV (l:=[_,_]) rfl (fun b1 w4 hC n4 i1=>?_);have d5:Below w w w4:=gJ (k:=1) n4
      cases hfi:kO.findIdx? (· ==d)with
      |none=>
       have n7:tk d= -1:=by unfold tk;rw[hfi];rfl
       cases ok0 with
       |false=>
        obtain⟨e4,i2⟩:=g4 rfl
        have l3:lX r d [F]=none:=by rw[nS H.el Hf c4,aj c3.out,L3 hfi e4 i2]
        have m3:=O l3;have p1:=O e4;have p2:=O i2;have j1:=O hfi;clear l3 e4 i2 hfi
        go_wp2_with(first
         |(refine mp i1 h8 rfl (.tmp 6) (.tmp 87) rfl rfl rfl ?_;intro w5 b6 R;have E:=R w w hC d5;have e0:=(E.cell (p:=J A) T).trans f0;have b4:=O b6;have C:=O E;clear b6 R E)
         |(refine(uc d N _ (d8.below (C.mono (by omega))) (by have:=C.size;omega)).mono ?_;rintro e w6 ⟨rfl,a7⟩;have a8:=O (I C a7);have e6:=O ((a7.block b1 (TK b4)).trans b4);clear a7))
        refine(lm _).mono ?_;rintro e w8 ⟨rfl,rfl⟩;have b3:=g9 _ a8 m3;unfold iX at b3⊢;have m0:=O b3;clear b3
        go_wp2_with fail
        exact⟨rfl,m0⟩
       |true=>
        obtain⟨_,m7,off,rfl,j⟩:=g5 rfl;have a4:=O j;have j1:=O hfi;clear j hfi
        go_wp2_with(first
         |(refine mp i1 h8 rfl (.tmp 6) (.tmp 87) rfl rfl rfl ?_;intro w5 b6 R;have E:=R w w hC d5;have e0:=(E.cell (p:=J A) T).trans f0;have b4:=O b6;have C:=O E;clear b6 R E)
         |(refine(uc d N _ (d8.below (C.mono (by omega))) (by have:=C.size;omega)).mono ?_;rintro e w6 ⟨rfl,a7⟩;have a8:=O (I C a7);have e6:=O ((a7.block b1 (TK b4)).trans b4);clear a7))
        refine(kW _).mono ?_;rintro e w8 ⟨rfl,rfl⟩;have j:=a4.out;have b2:=e6.out;have a3:=a8
        go_upto_region 13 with fail
        have e1:w6.cell? ⟨b1,1,none⟩=some (.int .i64 (d0:Int)):=gA b2 1;have e2:w6.cell? ⟨b1,2,none⟩=some (.func (.func m7) #[] #[]):=gA b2 2;have b0:=TK b2;have d9:w6.cell? ⟨A,1,none⟩=some (.string (bs F)):=(a3.cell (p:=⟨A,1,none⟩) T).trans j4;have d7:A<w6.heap.size:=ab T a3.size;refine gS 11 [(0,true),(1,true),(2,true),(4,true),(5,true),(6,true),(7,true),(8,true),(3,false),(9,false),(10,true)] (by kernel_rfl) (by kernel_rfl) ?_
        iterate 8
         refine gU (v:=?_) rfl (fun _ _ _ h=>h) (by rfl) ?_ ?_;rotate_left
         .intro y t
          have k1:=(t.cell (p:=⟨b1,1,none⟩) b0).trans e1;have k2:=(t.cell (p:=⟨b1,2,none⟩) b0).trans e2;have k3:=(t.cell (p:=⟨A,1,none⟩) d7).trans d9;go_simp
          with_reducible rfl
         try simp only[V]
        refine gP rfl rfl (fun KK a6=>?_);have d6:=j.ent;go_simp;clear d6;refine(j.call bb (l0.length*22) _).mono ?_;rintro e w7 ⟨rfl,rfl⟩;refine a6 _ _ (TH _ _) ?_;clear a6 KK
        try simp only[V]
        refine gP rfl rfl (fun KK a6=>?_);go_simp;refine(mL F d0 _ (Hl F (by simp)) j.d18 (j2.below a3.drew)).mono ?_;rintro e w7 ⟨M,c1⟩;have L:Below w w w7:=a3.drew.trans (c1.mono a3.size)
        cases Q:lp F d0 with
        |none=>
         unfold kX at M;rw[Q]at M;subst M;have b3:=g9 w7 L (by rw[nS H.el Hf c4,aj c3.out,j.dig];show(lp F d0).map _=none;rw[Q];rfl);unfold iX at b3⊢;exact⟨rfl,b3⟩
        |some z=>
         unfold kX at M;rw[Q]at M;subst M;refine a6 _ _ c1 ?_;clear a6 KK
         try simp only[V]
         have hr:lX r d [F]=some ⟨{r.x with l:=l0++[⟨Ac y.s d z,y.zs⟩]},7,r.seen++[d]⟩:=by
          rw[nS H.el Hf c4,aj c3.out,j.dig]
          show(lp F d0).map _=_
          rw[Q];rfl
         have b9:=e7.go L;obtain⟨h4,m6⟩:=b9.cell j.lt;obtain⟨u7,e5⟩:∃u,(gX y.s q.a q.n q.c)[off]? =some u:=⟨_,ae (by show off<22;exact j.lt)⟩;rw[e5]at h4;have Hr:=O hr;have g8:=O b9;have a9:=O L;have a4:=O j;clear hr b9 L j e5 Q c1 e1 e2 b2 d9
         iterate 1
          refine gU (v:=?_) rfl (fun _ _ _ h=>h) (by rfl) ?_ ?_;rotate_left
          .intro y t
           skip;go_simp
           with_reducible rfl
          try simp only[V]
         refine iu rfl ?_
         go_wp2_with fail
         go_end0;exact mf (xr Hr e8 HA HL H (fun b h1 h2=>(a9.block b (ab h1 g1)).trans (b8 b h1 h2)) (X.trans (a9.mono (by omega))) g8.map a4.lt (a4.set _ _ _ _ _) (by rw[a4.glass];exact H.glass) hc) Hd (by omega)
      |some i=>
       have n7:tk d=(i:Int):=by unfold tk;rw[hfi];rfl
       have i7:i<17:=qN hfi;have a4:=O (L0 hfi);have j1:=O hfi;clear hfi
       go_wp2_with(first
        |(refine mp i1 h8 rfl (.tmp 6) (.tmp 87) rfl rfl rfl ?_;intro w5 b6 R;have E:=R w w hC d5;have e0:=(E.cell (p:=J A) T).trans f0;have b4:=O b6;have C:=O E;clear b6 R E)
        |(refine(uc d N _ (d8.below (C.mono (by omega))) (by have:=C.size;omega)).mono ?_;rintro e w6 ⟨rfl,a7⟩;have a8:=O (I C a7);have e6:=O ((a7.block b1 (TK b4)).trans b4);clear a7)
        |(refine qe (.tmp 96) rfl rfl rfl ((d8.below (a8.mono (by omega))).par i i7) ?_)
        |(refine mp e6 rfl rfl (.tmp 6) (.tmp 97) rfl rfl rfl ?_;intro w8 j9 f4;have f1:=f4 w w hC a8;have l7:=O j9;have i3:=O f1;clear j9 f4 f1))
       refine(kW _).mono ?_;rintro e w9 ⟨rfl,rfl⟩;have j:=a4.out;have b2:=l7.out;have a3:=i3
       go_upto_region 13 with fail
       have e1:w8.cell? ⟨b1,1,none⟩=some (.int .i64 ((oo (i+1)):Int)):=gA b2 1;have e2:w8.cell? ⟨b1,2,none⟩=some (.func (.func (QB i)) #[] #[]):=gA b2 2;have b0:=TK b2;have d9:w8.cell? ⟨A,1,none⟩=some (.string (bs F)):=(a3.cell (p:=⟨A,1,none⟩) T).trans j4;have d7:A<w8.heap.size:=ab T a3.size;refine gS 11 [(0,true),(1,true),(2,true),(4,true),(5,true),(6,true),(7,true),(8,true),(3,false),(9,false),(10,true)] (by kernel_rfl) (by kernel_rfl) ?_
       iterate 8
        refine gU (v:=?_) rfl (fun _ _ _ h=>h) (by rfl) ?_ ?_;rotate_left
        .intro y t
         have k1:=(t.cell (p:=⟨b1,1,none⟩) b0).trans e1;have k2:=(t.cell (p:=⟨b1,2,none⟩) b0).trans e2;have k3:=(t.cell (p:=⟨A,1,none⟩) d7).trans d9;go_simp
         with_reducible rfl
        try simp only[V]
       refine gP rfl rfl (fun KK a6=>?_);have d6:=j.ent;go_simp;clear d6;refine(j.call bb (l0.length*22) _).mono ?_;rintro e w7 ⟨rfl,rfl⟩;refine a6 _ _ (TH _ _) ?_;clear a6 KK
       try simp only[V]
       refine gP rfl rfl (fun KK a6=>?_);go_simp;refine(mL F (oo (i+1)) _ (Hl F (by simp)) j.d18 (j2.below a3.drew)).mono ?_;rintro e w7 ⟨M,c1⟩;have L:Below w w w7:=a3.drew.trans (c1.mono a3.size)
       cases Q:lp F (oo (i+1))with
       |none=>
        unfold kX at M;rw[Q]at M;subst M;have b3:=g9 w7 L (by rw[nS H.el Hf c4,aj c3.out,j.dig];show(lp F (oo (i+1))).map _=none;rw[Q];rfl);unfold iX at b3⊢;exact⟨rfl,b3⟩
       |some z=>
        unfold kX at M;rw[Q]at M;subst M;refine a6 _ _ c1 ?_;clear a6 KK
        try simp only[V]
        have hr:lX r d [F]=some ⟨{r.x with l:=l0++[⟨Ac y.s d z,y.zs⟩]},7,r.seen++[d]⟩:=by
         rw[nS H.el Hf c4,aj c3.out,j.dig]
         show(lp F (oo (i+1))).map _=_
         rw[Q];rfl
        have b9:=e7.go L;obtain⟨h4,m6⟩:=b9.cell j.lt;obtain⟨u7,e5⟩:∃u,(gX y.s q.a q.n q.c)[Iv i]? =some u:=⟨_,ae (by show Iv i<22;exact j.lt)⟩;rw[e5]at h4;have Hr:=O hr;have g8:=O b9;have a9:=O L;have a4:=O j;clear hr b9 L j e5 Q c1 e1 e2 b2 d9
        iterate 1
         refine gU (v:=?_) rfl (fun _ _ _ h=>h) (by rfl) ?_ ?_;rotate_left
         .intro y t
          skip;go_simp
          with_reducible rfl
         try simp only[V]
        refine iu rfl ?_
        go_wp2_with fail
        go_end0;exact mf (xr Hr e8 HA HL H (fun b h1 h2=>(a9.block b (ab h1 g1)).trans (b8 b h1 h2)) (X.trans (a9.mono (by omega))) g8.map a4.lt (a4.set _ _ _ _ _) (by rw[a4.glass];exact H.glass) hc) Hd (by omega)
   .have h0:((ws.length:Int)+1==2)=false:=by rw[ak];omega
    have hb:iE B g 7 cc D (lX r d ws) W iX W.drew.drew:=iE.bad (LR Hf h1) Hd.drew (by omega);have P:=hb;clear hb h1 c5 a5 c7;unfold iX at P;have b7:=O P;clear P;refine gS 14 [(0,true),(1,true),(2,true),(3,true),(4,true),(5,true),(6,true),(7,true),(8,true),(9,true),(10,true),(11,true),(12,true),(13,true)] (by kernel_rfl) (by kernel_rfl) ?_
    iterate 4
     refine gU (v:=?_) rfl (fun _ _ _ h=>h) (by rfl) ?_ ?_;rotate_left
     .intro y t
      skip;go_simp
      with_reducible rfl
     try simp only[V]
    iterate 9
     refine Gq rfl (fun _ _ _ h=>h) (by rfl) ?_
     try simp only[V]
    iterate 1
     refine gU (v:=?_) rfl (fun _ _ _ h=>h) (by rfl) ?_ ?_;rotate_left
     .intro y t
      skip;go_simp
      with_reducible rfl
     try simp only[V]
    refine iu rfl ?_
    go_wp2_with fail
    refine(lm _).mono ?_;rintro e w ⟨rfl,rfl⟩;unfold iX
    go_wp2_with fail
    exact⟨rfl,b7⟩
 .omega
abbrev DO:=List UInt8×Nat×Int
def FP(x:DO):List UInt8:=if x.2.2=0 then[]else iF [x.1,iz x.2.2 x.2.1]
def rS(xs:List DO):List UInt8:=(xs.map FP).flatten
def PZ(B a:Nat)(w:World)(k:Nat):Prop:=k<B\/ ∃cs T fr,w.heap[k]? =some (.cells cs T fr)/\T≠5/\k≠a
def PZ.block{B a k w w'}(h:PZ B a w k)(b:Below B w w')(c:kY a w w'):w'.heap[k]? =w.heap[k]? :=by
 obtain h|⟨cs,T,fr,h1,h2,h3⟩:=h
 .exact b.block k h
 .exact(c k cs T fr h1 h2 h3).trans h1.symm
def FQ(w:World)(c b o:Nat)(x:DO):Prop:=∃a k,w.rangeAt b o [.string (bs x.1),.int .i64 (x.2.1:Int),.func (.func a) #[] #[]]/\(∀b k0 w,Calls prog a #[.pointer (some ⟨b,k0,none⟩)] w fun e w'=>e=.returned (.pointer (some ⟨b,k0+k,none⟩))/\w=w')/\
 (∀args w,(callFunc a args).run prog w=.ok (.enter a args) w)/\w.cell? ⟨c,k,none⟩=some (.int .i64 x.2.2)/\x.2.1<=18/\ -9223372036854775808<=x.2.2/\x.2.2<=9223372036854775807
def FQ.go{w w' c b o x}(h:FQ w c b o x)(h1:w'.heap[b]? =w.heap[b]?)(h2:w'.heap[c]? =w.heap[c]?):FQ w' c b o x:=by
 obtain⟨d,k,f,g,i,l,m⟩:=h;exact⟨d,k,fun j v e=>(World.cell?_of_block (a:=⟨b,o+j,none⟩) h1).trans (f j v e),g,i,(World.cell?_of_block (a:=⟨c,k,none⟩) h2).trans l,m⟩
def xu{xs:List DO}{k x}(h:xs[k]? =some x):rS (xs.take (k+1))=rS (xs.take k)++FP x:=by
 unfold rS;rw[mn h,aT,cG];simp
def P4(xs k):(rS (xs.take k)).length<=(rS xs).length:=by
 have:rS xs=rS (xs.take k)++rS (xs.drop k):=by
  unfold rS;rw[<- cG,<- aT,cA]
 rw[this,al];omega
def L7(B a:Nat)(l:List UInt8)(w:World)(e:Ending)(w':World):Prop:=e=.returned (.tuple #[])/\Lib.IsBuilder 108 5 B a (Lib.byteCells l) w'/\Below B w w'/\kY a w w'
def pJ(xs b o n c L u B l w)(j:∀i x,xs[i]? =some x->FQ w L b (o+i*3) x)(hn:xs.length=n)(c4:n<=c)(c3:n<=1000)(a9:PZ B u w b)(a8:PZ B u w L)(hb:Lib.IsBuilder 108 5 B u (Lib.byteCells l) w)(hB:B<=w.heap.size)(hl:l.length+(rS xs).length<=1000000)(hg:GW w)(b6:14<=B):
 Calls prog 81 #[U u,U L,Z (some ⟨b,o,none⟩) n c] w (L7 B u (l++rS xs) w):=by
 have Hx:=O j;have b4:=O a9;have b3:=O a8;have Hb:=O hb;have Hl:=O hl;have Hg:=O hg;have Hn:=O hn;clear j a9 a8 hb hl hg hn
 go_enter func81,ntmps81
 go_wp2_with fail
 go_loopw [11] (fun iv wr=>∃k:Nat,k<=n/\iv=.int .i64 (k:Int)/\Lib.IsBuilder 108 5 B u (Lib.byteCells (l++rS (xs.take k))) wr/\Below B w wr/\kY u w wr) (fun iv _=>n-(intOf iv).toNat)
 case atStart=>exact⟨0,aA _,rfl,by simpa[rS]using Hb.out,TH _ _,kY.refl _ _⟩
 case round=>
  obtain⟨k,hk,rfl,a5,a4,a6⟩:=hrel;have P:=O a5;have f:=O a4;have s:=O a6;clear a5 a4 a6
  by_cases b7:k<n
  .obtain⟨x,j⟩:∃x,xs[k]? =some x:=⟨xs[k]'(by rw[Hn];exact b7),ae _⟩
   have a1:=(Hx k x j).go (b4.block f s) (b3.block f s);obtain⟨nm,d,z⟩:=x;obtain⟨c2,kk,g,q,a0,hz,hd,b8,b9⟩:=a1;have Q:=O j;have t:=O g;have K:=O q;clear j g q;have c1:=oV hz
   go_wp2_with(first
    |(refine qe (.tmp 13) rfl rfl rfl t ?_)
    |(refine mp (TL wr _) rfl rfl (.tmp 7) (.tmp 14) rfl rfl rfl ?_;intro W m E;have F:=E wr wr (aa _) ((TH _ _).alloc (aa _) _);have M:=O m;have a:=O F;have e2:=gA m 2;clear m E F))
   refine(K L 0 _).mono ?_;rintro e w6 ⟨rfl,rfl⟩;rw[aV];clear a0 e2;have c0:W.cell? ⟨L,kk,none⟩=some (.int .i64 z):=(a.cell (p:=⟨L,kk,none⟩) c1).trans hz;clear hz;have T:=P4 xs (k+1);rw[xu Q,al]at T;have b2:=O T;clear T
   by_cases C:z=0
   .subst C
    have h1:FP (nm,d,(0:Int))=[]:=by unfold FP;rw[aq rfl]
    have H1:=O h1;clear h1
    go_wp2_with fail
    go_roundw
    case rel=>exact⟨k+1,by omega,by go_num,by rw[xu Q,H1,bG];exact iq P a,f.trans (a.mono (af hB f.size)),s.trans (kY.below a)⟩
    case measure=>simp[intOf];omega
   .have h1:FP (nm,d,z)=iF [nm,iz z d]:=by unfold FP;rw[aj C]
    have c5:(z !=0)=true:=by rw[fk];exact C
    have c6:(z==0)=false:=by rw[ak];exact C
    have H1:=O h1;clear h1;have e0:=gA M 0;have e1:=gA M 1;have a7:=TK M
    change W.cell? (J (wr.heap.size))=some (.string (bs nm))at e0
    change W.cell? ⟨wr.heap.size,1,none⟩=some (.int .i64 (d:Int))at e1
    clear C
    go_wp2_with fail
    go_upto_region 5 with fail
    refine gS 8 [(0,true),(1,true),(2,true),(3,true),(4,true),(5,true),(6,false),(7,false)] (by kernel_rfl) (by kernel_rfl) ?_
    iterate 6
     refine gU (v:=?_) rfl (fun _ _ _ h=>h) (by rfl) ?_ ?_;rotate_left
     .intro y hy
      have k1:=(hy.cell (p:=J (wr.heap.size)) a7).trans e0;have k2:=(hy.cell (p:=⟨wr.heap.size,1,none⟩) a7).trans e1;go_simp
      with_reducible rfl
     try simp only[V]
    refine gP rfl rfl (fun KK A=>?_);go_simp;have m:Below wr wr W.drew:=a.drew;refine(js z d W.drew b8 b9 hd ((Hg.of f b6).below m)).mono ?_;rintro e X ⟨rfl,R⟩;refine A _ _ R ?_;clear A KK
    try simp only[V]
    have r:Below wr wr X:=m.trans (R.mono a.size);refine gP rfl rfl (fun KK A=>?_);go_simp;refine A _ _ ((TH _ _).alloc (aa _) _) ?_;clear A KK
    try simp only[V]
    refine iu rfl ?_;have S:Below wr wr (X.alloc (.cells #[.string (bs nm),.string (bs (iz z d))] 9)):=r.alloc r.size _;have H:=TL X (.cells #[.string (bs nm),.string (bs (iz z d))] 9)
    have b5:B<=(X.alloc (.cells #[.string (bs nm),.string (bs (iz z d))] 9)).heap.size:=by have:=S.size;have:=f.size;omega
    have N:=O S;have D:=O H;clear S H r R m e0 e1 c0
    go_wp2_with fail
    refine(Cv [nm,iz z d] X 0 2 B u (l++rS (xs.take k)) _ (fun i x j=>?_) (by simp) (by simp) (by simp) (by have:=b2.out;have:=Hl.out;rw[H1]at*;rw[al];omega) (iq P N) b5).mono ?_
    .match i,j with
     |0,j=>cases j;exact gA D 0
     |1,j=>cases j;exact gA D 1
    .rintro e w9 ⟨rfl,h9,a2,a3⟩
     have H9:=O h9;have b0:=O a2;have b1:=O a3;clear h9 a2 a3
     go_wp2_with fail
     go_roundw
     case rel=>exact⟨k+1,by omega,by go_num,by rw[xu Q,H1,<- aC];exact H9,f.trans ((N.mono (af hB f.size)).trans b0),s.trans ((kY.below N).trans b1)⟩
     case measure=>simp[intOf];omega
  .obtain rfl:k=n:=by omega
   go_wp2_with fail
   go_end0;have h1:=P.out;rw[aM (by rw[Hn];exact aa _)]at h1;exact⟨rfl,h1,f,s⟩
end Go.Proofs.YtgohdcccfkjooaaGreatDoor
