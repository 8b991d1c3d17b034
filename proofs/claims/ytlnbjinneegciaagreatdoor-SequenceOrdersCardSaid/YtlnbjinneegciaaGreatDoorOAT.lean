import Derived.Test.YtlnbjinneegciaaGreatDoorOAS
namespace Go.Proofs.YtlnbjinneegciaaGreatDoor
set_option linter.all false
set_option maxRecDepth 100000
set_option maxHeartbeats 6400000
open Go.Proofs.Tryz Go.RowKit Go.Lib
abbrev DO:=List UInt8×Nat×Int
def FP(x:DO):List UInt8:=if x.2.2=0 then[]else iF [x.1,iz x.2.2 x.2.1]
def rS(xs:List DO):List UInt8:=(xs.map FP).flatten
def PZ(B a:Nat)(w:World)(k:Nat):Prop:=k<B\/ ∃cs T fr,w.heap[k]? =some (.cells cs T fr)/\T≠5/\k≠a
def PZ.block{B a k:Nat}{w w':World}(h:PZ B a w k)(b:Below B w w')(c:kY a w w'):w'.heap[k]? =w.heap[k]? :=by
 obtain h|⟨cs,T,fr,h1,h2,h3⟩:=h
 .exact b.block k h
 .exact(c k cs T fr h1 h2 h3).trans h1.symm
def FQ(w:World)(c b o:Nat)(x:DO):Prop:=∃a k,w.rangeAt b o [.string (bs x.1),.int .i64 (x.2.1:Int),.func (.func a) #[] #[]]/\(∀b k0 w,Calls prog a #[.pointer (some ⟨b,k0,none⟩)] w fun e w'=>e=.returned (.pointer (some ⟨b,k0+k,none⟩))/\w=w')/\
 (∀args w,(callFunc a args).run prog w=.ok (.enter a args) w)/\w.cell? ⟨c,k,none⟩=some (.int .i64 x.2.2)/\x.2.1<=18/\ -9223372036854775808<=x.2.2/\x.2.2<=9223372036854775807
def FQ.go{w w':World}{c b o:Nat}{x:DO}(h:FQ w c b o x)(h1:w'.heap[b]? =w.heap[b]?)(h2:w'.heap[c]? =w.heap[c]?):FQ w' c b o x:=by
 obtain⟨d,k,f,g,i,l,m⟩:=h;exact⟨d,k,fun j v e=>(World.cell?_of_block (a:=⟨b,o+j,none⟩) h1).trans (f j v e),g,i,(World.cell?_of_block (a:=⟨c,k,none⟩) h2).trans l,m⟩
def xu{xs:List DO}{k:Nat}{x:DO}(h:xs[k]? =some x):rS (xs.take (k+1))=rS (xs.take k)++FP x:=by
 unfold rS;rw[mn h,aT,cG];simp
def P4(xs:List DO)(k:Nat):(rS (xs.take k)).length<=(rS xs).length:=by
 have:rS xs=rS (xs.take k)++rS (xs.drop k):=by
  unfold rS;rw[<- cG,<- aT,cA]
 rw[this,al];omega
def L7(B a:Nat)(l:List UInt8)(w:World)(e:Ending)(w':World):Prop:=e=.returned (.tuple #[])/\Lib.IsBuilder 87 5 B a (Lib.byteCells l) w'/\Below B w w'/\kY a w w'
def pJ(xs:List DO)(b o n c H t B:Nat)(l:List UInt8)(w:World)(h:∀i x,xs[i]? =some x->FQ w H b (o+i*3) x)(hn:xs.length=n)(c3:n<=c)(c2:n<=1000)(a8:PZ B t w b)(a7:PZ B t w H)
 (hb:Lib.IsBuilder 87 5 B t (Lib.byteCells l) w)(hB:B<=w.heap.size)(hl:l.length+(rS xs).length<=1000000)(hg:GW w)(b5:14<=B):
 Calls prog 57 #[U t,U H,Z (some ⟨b,o,none⟩) n c] w (L7 B t (l++rS xs) w):=by
 have Hx:=O h;have b3:=O a8;have b2:=O a7;have Hb:=O hb;have Hl:=O hl;have Hg:=O hg;have Hn:=O hn;clear h a8 a7 hb hl hg hn;go_enter func57,ntmps57;go_wp2
 go_loopw [11] (fun iv wr=>∃k:Nat,k<=n/\iv=.int .i64 (k:Int)/\Lib.IsBuilder 87 5 B t (Lib.byteCells (l++rS (xs.take k))) wr/\Below B w wr/\kY t w wr) (fun iv _=>n-(intOf iv).toNat)
 case atStart=>exact⟨0,aA _,rfl,by simpa[rS]using Hb.out,TH _ _,kY.refl _ _⟩
 case round=>
  obtain⟨k,hk,rfl,a4,a3,a5⟩:=hrel;have M:=O a4;have f:=O a3;have r:=O a5;clear a4 a3 a5;by_cases b6:k<n
  .obtain⟨x,h⟩:∃x,xs[k]? =some x:=⟨xs[k]'(by rw[Hn];exact b6),ae _⟩
   have a0:=(Hx k x h).go (b3.block f r) (b2.block f r);obtain⟨nm,d,z⟩:=x;obtain⟨c1,kk,g,m,X,hz,hd,b7,b8⟩:=a0;have N:=O h;have s:=O g;have F:=O m;clear h g m;have c0:=oV hz
   go_wp2_with(first
    |(refine qe (.tmp 13) rfl rfl rfl s ?_)
    |(refine mp (TL wr _) rfl rfl (.tmp 7) (.tmp 14) rfl rfl rfl ?_;intro S j D;have a:=O (D wr wr (aa _) ((TH _ _).alloc (aa _) _));have K:=O j;have e2:=VV j 2;clear j D))
   refine(F H 0 _).mono ?_;rintro e w6 ⟨rfl,rfl⟩;rw[aV];clear X e2;have b9:S.cell? ⟨H,kk,none⟩=some (.int .i64 z):=(a.cell (p:=⟨H,kk,none⟩) c0).trans hz;clear hz;have R:=P4 xs (k+1);rw[xu N,al]at R;have b1:=O R;clear R;by_cases A:z=0
   .subst A
    have h1:FP (nm,d,(0:Int))=[]:=by unfold FP;rw[aq rfl]
    have W:=O h1;clear h1;go_wp2
    go_roundw
    case rel=>exact⟨k+1,by omega,by go_num,by rw[xu N,W,bG];exact iq M a,f.trans (a.mono (af hB f.size)),r.trans (kY.below a)⟩
    case measure=>simp[intOf];omega
   .have h1:FP (nm,d,z)=iF [nm,iz z d]:=by unfold FP;rw[aj A]
    have c4:(z !=0)=true:=by rw[fk];exact A
    have c5:(z==0)=false:=by rw[ak];exact A
    have W:=O h1;clear h1;have e0:=VV K 0;have e1:=VV K 1;have a6:=TK K
    change S.cell? (J (wr.heap.size))=some (.string (bs nm))at e0
    change S.cell? ⟨wr.heap.size,1,none⟩=some (.int .i64 (d:Int))at e1
    clear A;go_wp2_with fail;go_upto_region 5 with fail;refine gS 8 [(0,true),(1,true),(2,true),(3,true),(4,true),(5,true),(6,false),(7,false)] (by kernel_rfl) (by kernel_rfl) ?_
    iterate 6
     refine gU (v:=?_) ?_ ?_;rotate_left
     .intro y hy
      have k1:=(hy.cell (p:=J (wr.heap.size)) a6).trans e0;have k2:=(hy.cell (p:=⟨wr.heap.size,1,none⟩) a6).trans e1;go_simp;with_reducible rfl
     try simp only[V]
    refine gP (fun KK u=>?_);go_simp;have j:Below wr wr S.drew:=a.drew;refine(js z d S.drew b7 b8 hd ((Hg.of f b5).below j)).mono ?_;rintro e T ⟨rfl,P⟩;refine u _ _ P ?_;clear u KK;(try simp only[V]);have q:Below wr wr T:=j.trans (P.mono a.size);refine gP (fun KK u=>?_);go_simp;refine u _ _ ((TH _ _).alloc (aa _) _) ?_;clear u KK;(try simp only[V]);refine iu rfl ?_;have Q:Below wr wr (T.alloc (.cells #[.string (bs nm),.string (bs (iz z d))] 9)):=q.alloc q.size _;have E:=TL T (.cells #[.string (bs nm),.string (bs (iz z d))] 9)
    have b4:B<=(T.alloc (.cells #[.string (bs nm),.string (bs (iz z d))] 9)).heap.size:=by have:=Q.size;have:=f.size;omega
    have L:=O Q;have C:=O E;clear Q E q P j e0 e1 b9;go_wp2_with fail;refine(Cv [nm,iz z d] T 0 2 B t (l++rS (xs.take k)) _ (fun i x h=>?_) (by simp) (by simp) (by simp) (by have:=b1.out;have:=Hl.out;rw[W]at*;rw[al];omega) (iq M L) b4).mono ?_
    .match i,h with
     |0,h=>cases h;exact VV C 0
     |1,h=>cases h;exact VV C 1
    .rintro e w9 ⟨rfl,h9,a1,a2⟩
     have H9:=O h9;have a9:=O a1;have b0:=O a2;clear h9 a1 a2;go_wp2
     go_roundw
     case rel=>exact⟨k+1,by omega,by go_num,by rw[xu N,W,<- aC];exact H9,f.trans ((L.mono (af hB f.size)).trans a9),r.trans ((kY.below L).trans b0)⟩
     case measure=>simp[intOf];omega
  .obtain rfl:k=n:=by omega
   go_wp2;go_end0;have h1:=M.out;rw[aM (by rw[Hn];exact aa _)]at h1;exact⟨rfl,h1,f,r⟩
def mh(r:jL)(a:List UInt8)(ws:List (List UInt8)):Option jL:=(ou r.x.cf fun c=>sP c (a::ws)).map fun cf=>⟨{r.x with cf:=cf},8,r.seen⟩
def WZ{r:jL}{a:List UInt8}{ws:List (List UInt8)}(h:ws.length≠3):mh r a ws=none:=by
 have b:∀c,sP c (a::ws)=none:=fun c=>by
  match ws,h with
  |[],_=>rfl
  |[_],_=>rfl
  |[_,_],_=>rfl
  |[_,_,_],h=>simp at h
  |_::_::_::_::_,_=>rfl
 unfold mh ou
 cases r.x.cf.getLast? with
 |none=>rfl
 |some y=>simp[b]
def Uo{r:jL}{l0:List jd}{y:jd}(c:r.x.cf=l0++[y])(b a p v:List UInt8):mh r b [a,p,v]=match rD p with
 |none=>none
 |some q=>match VZ a 0 with
  |none=>none
  |some i=>(VZ v (oo q)).map fun n=>⟨{r.x with cf:=l0++[⟨y.nm,y.zs++[i,(q:Int),n]⟩]},8,r.seen⟩:=by
 unfold mh;rw[c,qf];unfold sP;simp only
 cases rD p with
 |none=>rfl
 |some q=>
  cases VZ a 0 with
  |none=>rfl
  |some i=>cases hv:VZ v (oo q) <;>simp[hv]
def FT{B g cc A n c N:Nat}{D:Nat->Prop}{r:jL}{W:World}{L:List UInt8}{ws:List (List UInt8)}(h:vM B g 8 cc D r W)(hat:r.at_=8)(hw:ua W (J A) n c (L::ws) W)(hl:∀s∈L::ws,s.length<=100000)(hn:ws.length<=100000)
 (hc:cc<=100001)(hB:B<=W.heap.size)(hg:GW W)(hT:TW N W)(e4:N<=B):
 Calls prog 66 #[U g,Z (J A) n c] W (iE B g 8 cc D (mh r L ws) W):=by
 obtain⟨f,v,s,k,m,hA,hL⟩:=h;have g3:=hL.gB
 obtain ⟨h7,_⟩|⟨_,l0,y,css,q,H,cap,hS⟩|⟨h7,_⟩:=hL.cf.2
 .omega
 .have e1:=hS.ep
  subst e1;have c8:W.cell? ⟨g,8,none⟩=some (.slice (J H) (l0.length+1) cap):=(hA.cell 8).1;have e7:g<W.heap.size:=TK hA
  have f3:l0.length+1<=cap:=by
   obtain ⟨e,_⟩|⟨g',f0,f8,e,_,_,h3,_⟩:=hS.row.2
   .cases e
   .cases e;exact h3
  have g4:l0.length<=100001:=by have:=hL.cf.1;have:l0.length+1<=cc:=this;omega
  have e8:n=ws.length+1:=by have:=hw.1;simp at this;omega
  subst e8;have g1:ws.length+1<=c:=hw.2.1
  have c4:A<W.heap.size:=by
   obtain⟨g',off,e,h3,_⟩:=hw.2.2 (by omega);cases e;exact h3
  have c5:∀i x,(L::ws)[i]? =some x->W.cell? ⟨A,i,none⟩=some (.string (bs x)):=fun i x hx=>by
   obtain⟨g',off,e,_,h3⟩:=hw.2.2 (by omega);cases e;have:=h3 i x hx;rwa[aV]at this
  have HA:=O hA;have HL:=O hL;have HS:=O hS;have Hl:=O hl;have Hg:=O hg;have HT:=O hT;have Hn:=O hn;have d3:=O hat;have T:=O c5;clear hA hL hS hl hg hT hw hn hat c5;go_enter func66,ntmps66;by_cases h1:ws.length=3
  .obtain⟨a,p,F,rfl⟩:∃a p F,ws=[a,p,F]:=by
    match ws,h1 with
    |[x,y,z],_=>exact⟨x,y,z,rfl⟩
   have d9:=T 2 p rfl
   cases hfi:kO.findIdx? (· ==p)with
   |none=>
    have e5:tk p= -1:=by unfold tk;rw[hfi];rfl
    have d8:=O (show mh r L [a,p,F]=none by rw[Uo HS.el,yo hfi]);have f6:=O hfi;clear hfi;go_wp2_with fail;refine(kW _).mono ?_;rintro e w3 ⟨rfl,rfl⟩
    go_wp2_with(refine(uc p N _ HT (by omega)).mono ?_;rintro e l ⟨rfl,b:HQ _⟩)
    refine(lm _).mono ?_;rintro e w8 ⟨rfl,rfl⟩;have t:iE B g 8 cc D (mh r L [a,p,F]) W iX _:=iE.bad d8 b (by omega);unfold iX at t⊢;have d6:=O t;clear t;go_wp2_with fail;exact⟨rfl,d6⟩
   |some i=>
    have e5:tk p=(i:Int):=by unfold tk;rw[hfi];rfl
    have b2:i<17:=qN hfi;have M:=O (ug hfi);clear hfi;go_wp2_with fail;refine(kW _).mono ?_;rintro e w3 ⟨rfl,rfl⟩
    go_wp2_with(refine(uc p N _ HT (by omega)).mono ?_;rintro e l ⟨rfl,b:HQ _⟩)
    refine(kW _).mono ?_;rintro e w8 ⟨rfl,rfl⟩;clear d9;have g5:=b.size;have b8:l.cell? ⟨g,8,none⟩=some (.slice (J H) (l0.length+1) cap):=(b.cell (p:=⟨g,8,none⟩) e7).trans c8
    have b3:g<l.heap.size:=by omega
    clear c8;go_upto_region 3 with fail;have a4:IntKind.i64.wrap (l0.length:Int)=(l0.length:Int):=TM _ (by omega);refine gS 13 [(0,true),(1,true),(2,true),(3,true),(4,true),(5,true),(6,true),(7,true),(8,true),(9,true),(10,true),(11,true),(12,true)] (by kernel_rfl) (by kernel_rfl) ?_
    iterate 11
     refine gU (v:=?_) ?_ ?_;rotate_left
     .intro y R
      have k1:=(R.cell (p:=⟨g,8,none⟩) b3).trans b8;go_simp;with_reducible rfl
     try simp only[V]
    iterate 2
     refine gU (v:=?_) ?_ ?_;rotate_left
     .intro y R
      go_simp
      try rw[a4]
      try rw[aq (show(l0.length:Int) <(l0.length:Int)+1 by omega)]
      try with_reducible rfl
     try simp only[V]
    refine iu rfl ?_;clear b8;go_upto_region 4 with fail;have X:=HS.go b;have f2:=X.bbB
    have f4:A<l.heap.size:=by omega
    have b9:l.cell? ⟨A,1,none⟩=some (.string (bs a)):=(b.cell (p:=⟨A,1,none⟩) c4).trans (T 1 a rfl);have c0:l.cell? ⟨A,3,none⟩=some (.string (bs F)):=(b.cell (p:=⟨A,3,none⟩) c4).trans (T 3 F rfl);have c3:=HT.below (b.mono (by omega));have g0:0<l.heap.size:=ab (ab (show 0<14 by decide) HT.glo) (by omega);have p1:l.cell? ⟨0,i*3+1,none⟩=some (.int .i64 (oo (i+1):Int)):=c3.par i b2 1 _ rfl;obtain⟨cg,fg⟩:=X.cell (show 1<2 by omega)
    change l.cell? ⟨H,l0.length*2+1,none⟩=some (.slice q.a q.n q.c)at cg
    have b1:=yP (i+1);generalize hdg:oo (i+1)=dg at*;have b6:=O hdg;have d2:=O X;have b7:=O (Hg.below b);clear hdg X c3;obtain⟨qa,qn,qc⟩:=q
    change l.cell? ⟨H,l0.length*2+1,none⟩=some (.slice qa qn qc)at cg
    have c7:(i:Int) <17:=by omega
    have g6:IntKind.i64.wrap ((i:Int)+1)=(i:Int)+1:=TM _ (by omega);refine kC (S:=fun x=>x=H\/x=A\/x=0) 22 [(0,true),(1,true),(2,true),(3,true),(4,true),(5,true),(6,true),(7,true),(9,true),(10,true),(11,true),(12,true),(13,true),(14,true),(15,true),(16,true),(17,true),(8,false),(18,false),(19,true),(20,false),(21,false)] (by kernel_rfl) (by kernel_rfl) ?_
    iterate 17
     refine gU (v:=?_) ?_ ?_;rotate_left
     .intro y R
      have k1:=(R.cell (p:=⟨H,l0.length*2+1,none⟩) (VR rfl)).trans cg;have k2:=(R.cell (p:=⟨A,1,none⟩) (VS (VR rfl))).trans b9;have k3:=(R.cell (p:=⟨A,3,none⟩) (VS (VR rfl))).trans c0;have k4:=(R.cell (p:=⟨0,i*3+1,none⟩) (VS (VS rfl))).trans p1;go_simp;with_reducible rfl
     try simp only[V]
    have c1:∀w w':World,l.heap.size<=w.heap.size->Below w w w'->gN (fun x=>x=H\/x=A\/x=0) w w':=fun w w' h1 h2 x hx=>h2.block x (by obtain rfl|rfl|rfl:=hx<;>omega)
    have a5:=O c1;clear c1;refine gP (fun KK Q=>?_);go_simp;refine(mL a 0 _ (Hl a (by simp)) (by omega) (b7.below (TH _ _).drew.drew)).mono ?_;rintro e w9 ⟨u,a8⟩;have o:Below l l w9:=(TH l l).drew.drew.trans a8
    cases hva:VZ a 0 with
    |none=>
     unfold kX at u;rw[hva]at u;subst u;have t:iE B g 8 cc D (mh r L [a,p,F]) W iX w9:=iE.bad (by rw[Uo HS.el,M];simp only[hva]) (I b o) (by omega);unfold iX at t⊢;exact⟨rfl,t⟩
    |some z0=>
     unfold kX at u;rw[hva]at u;subst u;refine Q _ _ (a5 _ _ (aa _) a8) ?_;clear Q KK;(try simp only[V]);refine gP (fun KK Q=>?_);go_simp;refine(mL F dg w9 (Hl F (by simp)) b1 (b7.below o)).mono ?_;rintro e E ⟨u,P⟩;have d:Below l l E:=I o P
     cases hvv:VZ F dg with
     |none=>
      unfold kX at u;rw[hvv]at u;subst u;have t:iE B g 8 cc D (mh r L [a,p,F]) W iX E:=iE.bad (by rw[Uo HS.el,M];simp only[hva,b6.out,hvv];rfl) (I b d) (by omega);unfold iX at t⊢;exact⟨rfl,t⟩
     |some z1=>
      unfold kX at u;rw[hvv]at u;subst u;refine Q _ _ (a5 _ _ o.size P) ?_;clear Q KK;try simp only[V]
      have hr:mh r L [a,p,F]=some ⟨{r.x with cf:=l0++[⟨y.nm,y.zs++[z0,((i+1:Nat):Int),z1]⟩]},8,r.seen⟩:=by rw[Uo HS.el,M];simp only[hva,b6.out,hvv];rfl
      have Hr:=O hr;clear hr hva hvv
      iterate 1
       refine gU (v:=?_) ?_ ?_;rotate_left
       .intro y R
        skip;go_simp;with_reducible rfl
       try simp only[V]
      refine gP (fun K hK=>?_);go_simp;refine hK _ _ (a5 _ _ d.size ((TH _ _).alloc (aa _) _)) ?_;clear hK K;(try simp only[V]);have j:Below l l (E.alloc (.cells [Value.int .i64 z0,.int .i64 ((i:Int)+1),z1].toArray 74)):=d.trans ((TH E E).alloc (aa _) _|>.mono d.size);have a7:=HA.go (I b j);have c2:=HL.go (I b j);have C:=d2.go j;have f5:=TK a7;have b0:=C.bbB
      have e3:B<=(E.alloc (.cells [Value.int .i64 z0,.int .i64 ((i:Int)+1),z1].toArray 74)).heap.size:=by have:=(I b j).size;omega
      have e9:=C.qn
      change qn<=cc at e9
      refine gP (fun K hK=>?_);refine nR underlying75 Tryz.infoChange3 rfl (by omega) (by omega) _ _ rfl B _ (.slice qa qn qc) qn E _ [z0,.int .i64 ((i:Int)+1),z1] rfl C.t9.row (TL E _) rfl rfl (by simp[Value.oneCell']) (by omega) e3 ?_;intro g2 f1 c6 a2 a0 e6;have a1:(Value.slice qa qn qc).ownBlock≠some H:=C.ne;have b4:(Value.slice qa qn qc).ownBlock≠some A:=HS.t9.word (by omega) (T 0 L rfl)
      have b5:(Value.slice qa qn qc).ownBlock≠some 0:=fun e=>by
       have h9:=(gT C.t9.row e).1;have e0:=HT.glo
       have e2:0<14:=by decide
       exact absurd (ab (ab e2 e0) (af e4 h9)) (Nat.lt_irrefl _)
      refine hK _ _ (fun x hx=>a0.kept x (by have:=j.size;obtain rfl|rfl|rfl:=hx<;>omega) (by obtain rfl|rfl|rfl:=hx;exact a1;exact b4;exact b5)) ?_;clear hK K
      have a3:c6.cell? ⟨H,l0.length*2+1,none⟩=some (.slice qa qn qc)/\c6.frozen? ⟨H,l0.length*2+1,none⟩=false:=by
       have hk:=a0.kept H b0.2 a1;obtain⟨q1,q2⟩:=C.cell (show 1<2 by omega);exact⟨by simp only[World.cell?,hk];exact q1,by simp only[World.frozen?,hk];exact q2⟩
      obtain⟨f7,f9⟩:=a3;have c9:=O a7;have d0:=O c2;have d1:=O C;have d5:=O (I b j);have a9:=O a2;have d7:=O a0;clear a7 c2 C j a2 a0 cg fg b9 c0 p1 d P o a8;(try simp only[V]);refine iu rfl ?_;go_wp2;go_end0;exact DJ Hr d3 d5 c9 d0 d1 a9 d7 e6 hB hc
  .have h0:((ws.length:Int)+1==4)=false:=by rw[ak];omega
   have hb:iE B g 8 cc D (mh r L ws) W iX W:=iE.bad (WZ h1) (TH _ _) (by omega);have a6:=hb;clear hb h1 c8;unfold iX at a6;have d4:=O a6;clear a6;go_wp2_with fail;refine(lm _).mono ?_;rintro e w3 ⟨rfl,rfl⟩;unfold iX;go_wp2_with fail;exact⟨rfl,d4⟩
 .omega
def pm{lo hi:Int}{l:List Int}(h:(!jr lo hi l)=true):∀x∈l,lo<=x/\x<=hi:=by
 intro x a;unfold jr at h;rw[di,du]at h;have:=h x a;simp at this;omega
def L8{s:gW}{zs:List Int}{n:Nat}(h:oA s zs n=true):uU s=true/\uV s=true/\uW s=true:=by
 have h1:uX s zs n=true:=by unfold oA at h;simp at h;exact h.1
 exact⟨an.1 h1 1 (by simp),an.1 h1 2 (by simp),an.1 h1 3 (by simp)⟩
def uG{s:gW}{zs:List Int}{n:Nat}(h:oA s zs n=true):(∀p:Int,-1000000000<=s.get p/\s.get p<=1000000000)/\(0<=s.i7/\s.i7<=1000000000)/\(-3<=s.order/\s.order<=3):=by
 obtain⟨h2,h3,a⟩:=L8 h;unfold uU at h2;unfold uV at h3;unfold uW at a;simp only[am]at h2 h3 a;have a1:=pm h2.1.1;have a2:=pm h2.1.2;have a3:=pm h2.2;have b1:=pm h3.1;have b2:=pm h3.2;have c1:=pm a.1;have c2:=pm a.2;simp only[ct,bi,false_implies,implies_true,and_true]at a1 a2 a3 b1 b2 c1 c2;refine⟨fun p=>?_,by omega,by omega⟩;unfold gW.get
 repeat' split
 all_goals omega
def wH{s:gW}{zs:List Int}{n:Nat}(h:oA s zs n=true){k:Nat}(a:k<n):(0<=zs.getD (k*3) 0/\zs.getD (k*3) 0<=40000000)/\(0<=zs.getD (k*3+1) 0/\zs.getD (k*3+1) 0<=1000)/\(0<=zs.getD (k*3+2) 0/\zs.getD (k*3+2) 0<=1000):=by
 have h1:mP zs k=true:=by
  unfold oA at h;rw[am]at h;exact an.1 h.2 k (aJ.2 a)
 unfold mP oH at h1;simp only[am]at h1;have a1:=pm h1.1.1 _ (aK.2 rfl);have a2:=pm h1.1.2 _ (aK.2 rfl);have a3:=pm h1.2 _ (aK.2 rfl);omega
def qk(f:Nat->List UInt8)(k:Nat):((List.range (k+1)).map f).flatten=((List.range k).map f).flatten++f k:=by
 rw[bV,aT,cG];simp
def Cx{g:ByteArray}(h:VX g=[]):g={data:=#[]}:=by
 obtain⟨d⟩:=g;have:d.toList=[]:=h;rw[Array.toList_eq_nil_iff.1 this]
def qO(g:ByteArray):bs (VX g)=g:=by
 obtain⟨d⟩:=g;rfl
def Bq(s:gW)(a n:Nat):List DO:=(List.range n).map fun i=>(km (a+i),oo (a+i),s.get ((a+i:Nat):Int))
def rU(s:gW)(a n:Nat):rS (Bq s a n)=ub s a n:=by
 unfold rS Bq ub;rw[dD];rfl
def xv{N:Nat}{w:World}{g:Nat}{s:gW}{a:Option Addr}{n c:Nat}(v:TW N w)(u:Y w g s a n c){zs:List Int}{m:Nat}(z:oA s zs m=true)(d k:Nat)(h1:1<=d)(h2:d+k<=18):∀i x,(Bq s d k)[i]? =some x->FQ w g 0 ((d-1)*3+i*3) x:=by
 intro i x e;unfold Bq at e;rw[aR]at e
 cases hi:(List.range k)[i]? with
 |none=>rw[hi]at e;cases e
 |some j=>
  obtain⟨h,f⟩:=TG.1 hi;rw[dt]at h;rw[List.getElem_range]at f;subst f;rw[hi]at e;cases e;have A:=(uG z).1 ((d+i:Nat):Int);have l:=v.par (d-1+i) (by omega);have y:=u.getP (p:=((d+i:Nat):Int)) (by omega) (by omega);refine⟨QB (d-1+i),Iv (d-1+i),?_,fun b k0 w=>JN _ (by omega) b k0 w,Cw _ (by omega),?_,yP _,by show _<=s.get _;omega,by show s.get _<=_;omega⟩
  .have o:(d-1)*3+i*3=(d-1+i)*3:=by rw[dB]
   have q:km (d+i)=kO.getD (d-1+i) []:=by unfold km;rw[show d+i-1=d-1+i by omega]
   have r:d-1+i+1=d+i:=by omega
   rw[o];rw[r]at l
   show w.rangeAt _ _ [.string (bs (km (d+i))),.int .i64 (oo (d+i):Int),_]
   rw[q];exact l
  .rw[Iw _ (by omega)]
   have t:((d-1+i:Nat):Int)+1=((d+i:Nat):Int):=by omega
   rw[t];exact y
structure FR (B bw bS:Nat) (s:gW) (a:Option Addr) (n c:Nat) (l:List UInt8) (w W:World):Prop where
 s:Y W bS s a n c
 b:Lib.IsBuilder 87 5 B bw (Lib.byteCells l) W
 be:Below B w W
 kt:kY bw w W
def FR.next{B e b:Nat}{s:gW}{a:Option Addr}{n c:Nat}{l l':List UInt8}{w W f g:World}(h:FR B e b s a n c l w W)(d:Below W W f)(h2:L7 B e l' f (.returned (.tuple #[])) g)(i:b≠e)(k:B<=w.heap.size):FR B e b s a n c l' w g:=by
 obtain⟨_,h3,j,h5⟩:=h2;have m:=h.be.size;exact⟨h5 b _ _ _ ((d.block b (TK h.s)).trans h.s) (by decide) i,h3,h.be.trans ((d.mono (af k m)).trans j),h.kt.trans ((kY.below d).trans h5)⟩
def FR.go{B g e:Nat}{s:gW}{a:Option Addr}{n c:Nat}{l:List UInt8}{w W f:World}(h:FR B g e s a n c l w W)(d:Below W W f)(i:B<=w.heap.size):FR B g e s a n c l w f:=
 ⟨(d.block e (TK h.s)).trans h.s,iq h.b d,h.be.trans (d.mono (af i h.be.size)),h.kt.trans (kY.below d)⟩
def kL(ws:List (List UInt8))(g c B b:Nat)(l:List UInt8)(w:World)(h:w.heap[g]? =some (.cells (ji ws).toArray 9 (0,0)))(f:ws.length<=c)(k:ws.length<=1000000)(j:l.length+(iF ws).length<=1000000)
 (d:Lib.IsBuilder 87 5 B b (Lib.byteCells l) w)(a:B<=w.heap.size):
 Calls prog 27 #[U b,Z (J g) ws.length c] w (L7 B b (l++iF ws) w):=
 (Cv ws g 0 c B b l w (fun i x m=>by
   rw[aV,VV h i];unfold ji
   rw[bo,aR,m];rfl) (TK h) f k j d a).mono fun e w' h=>h
def jz{B b:Nat}{l:List UInt8}{w w':World}{e:Ending}(h:L7 B b l w e w'):e=.returned (.tuple #[]):=h.1
def FR.line{B d j:Nat}{s:gW}{a:Option Addr}{n c:Nat}{l:List UInt8}{w W i:World}(h:FR B d j s a n c l w W)(f:Below W W i)(p:j≠d)(q:B<=w.heap.size)(ws:List (List UInt8)){g m:Nat}(hw:i.heap[g]? =some (.cells (ji ws).toArray 9 (0,0)))(o:(l++iF ws).length<=1000000)(r:ws.length=m:=by rfl)(h9:m<=9:=by decide):
 Calls prog 27 #[U d,Z (J g) m m] i fun e k=>e=.returned (.tuple #[])/\FR B d j s a n c (l++iF ws) w k:=by
 subst r;have h1:=f.size;have h2:=h.be.size;rw[al]at o;refine(kL ws g ws.length B d l i hw (aa _) (by omega) o (iq h.b f) (by omega)).mono ?_;rintro e k h3;obtain rfl:=jz h3;exact⟨rfl,h.next f h3 p q⟩
def FR.values{B g f:Nat}{s:gW}{a:Option Addr}{n c:Nat}{l:List UInt8}{w W j:World}(h:FR B g f s a n c l w W)(p:Below W W j)(q:f≠g)(r:B<=w.heap.size)(xs:List DO)(b o m d:Nat)(D:∀i x,xs[i]? =some x->FQ j f b (o+i*3) x)(C:xs.length=m)(y:m<=d)(v:PZ B g j b)(u:(l++rS xs).length<=1000000)(z:GW w)(k:14<=B)(A:m<=1000:=by decide):
 Calls prog 57 #[U g,U f,Z (some ⟨b,o,none⟩) m d] j fun e t=>e=.returned (.tuple #[])/\FR B g f s a n c (l++rS xs) w t:=by
 have h1:=h.go p r;rw[al]at u;refine(pJ xs b o m d f g B l j D C y A v (VS ⟨_,_,_,h1.s,by decide,q⟩) h1.b (af r h1.be.size) u (z.of h1.be k) k).mono ?_;rintro e t h3;obtain rfl:=jz h3;exact⟨rfl,h.next p h3 q r⟩
def Yt(p t:List UInt8):Prop:=∃q,t=p++q
def Yi{l p t:List UInt8}{m:Nat}(h:Yt p t)(a:(l++t).length<=m):(l++p).length<=m:=by
 obtain⟨q,rfl⟩:=h;simp only[al]at*;omega
def Yf{α:Type}(f:α->List UInt8)(l:List α){k:Nat}{y:α}(h:l[k]? =some y):Yt (((l.take k).map f).flatten++f y) ((l.map f).flatten):=by
 refine⟨((l.drop (k+1)).map f).flatten,?_⟩
 have a:l=l.take k++y::l.drop (k+1):=by rw[<- yO h,cA]
 conv=>lhs;rw[a]
 simp
def Yv(f:Nat->List UInt8){k n:Nat}(h:k<n):Yt (((List.range k).map f).flatten++f k) (((List.range n).map f).flatten):=by
 have:=Yf f (List.range n) (k:=k) (y:=k) (by simp[h])
 rwa[List.take_range,cD (cE h)]at this
def Yo{N:Nat}{w:World}(h:TW N w)(nm:List UInt8)(b:ByteArray)(e:b=bs nm)(v:Value)(f:yE nm=some v):∃c,w.cell? (J 3)=some (.map (some c))/\(Instr.lookup 150 (.map (some c)) (.string b) false).run prog w=.ok v w:=by
 subst e;obtain⟨c,g,h1,_,d,a⟩:=h.oth;have:=mM underlying150 underlying9 (Tryz.zeroPar w) d nm false;rw[a nm,f]at this;exact⟨c,h1,this⟩
def ib(x:gM):Nat->List UInt8
 |0=>iF [nq,kP.getD (x.s.kind-1).toNat []]
 |1=>ub x.s 1 10
 |2=>if x.s.i7=0 then[]else iF [lB,iz x.s.i7 6]
 |3=>ub x.s 11 5
 |4=>if x.s.order=0 then[]else iF [kj,iz x.s.order 0]
 |5=>ub x.s 16 2
 |6=>if VX x.s.e9=[]then[]else iF [lP,VX x.s.e9]
 |_=>((List.range (x.zs.length/3)).map (V3 x.zs)).flatten
def Yh(l:List UInt8)(x:gM):Nat->List UInt8
 |0=>l
 |k+1=>Yh l x k++ib x k
def Yl(l:List UInt8)(x:gM):Yh l x 8=l++oq x:=by
 rw[show oq x=ib x 0++ib x 1++ib x 2++ib x 3++ib x 4++ib x 5++ib x 6++ib x 7 from rfl];simp only[Yh,aC]
def Yp(l:List UInt8)(x:gM)(k:Nat):∀n,(Yh l x k).length<=(Yh l x (k+n)).length
 |0=>aa _
 |n+1=>af (Yp l x k n) (by rw[<- cN,Yh,al];omega)
def DP(x:gM)(a:Option Addr)(n c r B N:Nat)(l:List UInt8)(w:World)(ho:tr x=true)(hz:IR B w 3 a n c x.zs)(hn:n<=1000000)
 (hb:Lib.IsBuilder 87 5 B r (Lib.byteCells l) w)(P:B<=w.heap.size)(hl:l.length+(oq x).length<=1000000)(hg:GW w)(hT:TW N w)(g:N<=B):
 Calls prog 29 #[U r,.agg (⟨x.s,a,n,c⟩:jt)] w (L7 B r (l++oq x) w):=by
 have f3:r<w.heap.size:=by
  obtain ⟨_,v,h,_⟩|⟨_,v,h,_⟩:=hb
  .exact TK h
  .exact TK h
 have m:=(TH w w).alloc (aa _) (.cells (⟨x.s,a,n,c⟩:jt) 64);have R:FR B r w x.s a n c (Yh l x 0) w (w.alloc (.cells (⟨x.s,a,n,c⟩:jt) 64)):=⟨Y.new _ _ _ _ _,iq hb m,m.mono P,kY.below m⟩;have b8:oA x.s x.zs (x.zs.length/3)=true:=ho;obtain⟨e4,e5⟩:=vT b8;obtain⟨C,d0,c2⟩:∃C:Nat,x.s.kind=(C:Int)+1/\C<4:=⟨(x.s.kind-1).toNat,by omega,by omega⟩
 have d2:w.heap.size≠r:=by omega
 have d1:∀k,k<=8->(Yh l x k).length<=1000000:=fun k hk=>by
  have h1:=Yp l x k (8-k);rw[show k+(8-k)=8 by omega,Yl,al]at h1;omega
 have a1:=O R;have T:=O b8;have Hz:=O hz;have D:=O d1;have Hg:=O hg;have q:=O hT;have c4:=O d0;have E:=O d2;clear R b8 ho hz hl d1 hg hT m hb d0 d2 e4 e5;go_enter func29,ntmps29;go_upto_region 1 with fail;refine gI (fun wx=>FR B r w x.s a n c (Yh l x 0) w wx) a1 ?_;clear a1;rintro w1 R;obtain⟨ka,kn,kc,hk,a6⟩:=(q.below (R.be.mono g)).kin;have a5:kn=4:=a6.1.symm;subst a5;obtain⟨kg,ko,rfl,f5,c9⟩:=a6.2.2 (by omega)
 have h0:ib x 0=iF [nq,kP.getD C []]:=by
  show iF [nq,kP.getD (x.s.kind-1).toNat []]=_
  rw[c4,show(C:Int)+1-1=(C:Int)by omega,aI]
 have a7:w1.cell? ⟨kg,ko+C,none⟩=some (.string (bs (kP.getD C []))):=c9 C _ (by
  have:C<kP.length:=c2
  rw[ah,ae this];rfl)
 generalize kP.getD C []=kw at*
 have k0:w1.cell? (J (w.heap.size))=some (.int .i64 ((C:Int)+1)):=by rw[<- c4];exact R.s.cells.1
 have e8:4<=kc:=a6.2.1
 have f0:(C:Int) <4:=by omega
 have f1:(0:Int)<=(C:Int):=by omega
 have b5:=D 1 (by decide);rw[Yh,h0]at b5;have H0:=O h0;have a1:=O R;have c5:=O b5;clear c9 a6 R h0 b5;go_wp2_with fail;refine(a1.line ((TH _ _).alloc (aa _) _) E P [nq,kw] (TL _ _) c5).mono ?_;rintro _ w2 ⟨rfl,d⟩;rw[<- H0]at d;have F:Hid (FR B r w x.s a n c (Yh l x 1) w w2):=O d;clear d a7 k0 hk a1 H0 c5;go_wp2_with fail;refine(F.values (TH _ _) E P (Bq x.s 1 10) 0 0 10 17 (xv (q.below (F.be.mono g)) F.s T 1 10 (by omega) (by omega)) (by simp[Bq]) (by omega) (VR (ab (ab (show 0<14 by decide) q.glo) g)) (by rw[rU];exact D 2 (by decide)) Hg (af q.glo g)).mono ?_;rintro _ w3 ⟨rfl,d⟩;rw[rU]at d;have u:Hid (FR B r w x.s a n c (Yh l x 2) w w3):=O d;clear d F;obtain⟨ob,a0,b6⟩:=Yo (q.below (u.be.mono g)) lB {data:=#[104,111,108,101]} rfl (.agg #[.string (bs lB),.int .i64 6,.func (.func 290) #[] #[]]) rfl;go_wp2_with fail;have m:Below w3 w3 (w3.alloc (.cells #[.string (bs lB),.int .i64 6,.func (.func 290) #[] #[]] 97)):=(TH _ _).alloc (aa _) _;have A:=u.go m P;have f:=TL w3 (.cells #[.string (bs lB),.int .i64 6,.func (.func 290) #[] #[]] 97);have hr:=uG T
 have e:rS [(lB,6,x.s.i7)]=ib x 2:=by simp[rS,FP,ib]
 refine(u.values m E P [(lB,6,x.s.i7)] w3 0 1 1 (fun i y S=>?_) rfl (by omega) (VS ⟨_,_,_,f,by decide,by have:=u.be.size;omega⟩) (by rw[e];exact D 3 (by decide)) Hg (af q.glo g)).mono ?_
 .match i,S with
  |0,S=>
   cases S;have pl:=Ax;refine⟨_,15,fun j v t=>?_,pl.call,pl.ent,VV A.s 15,by show 6<=18;omega,?_,?_⟩
   .match j,t with
    |0,t=>cases t;exact VV f 0
    |1,t=>cases t;exact VV f 1
    |2,t=>cases t;exact VV f 2
   .show _<=x.s.i7;omega
   .show x.s.i7<=_;omega
 rintro _ w4 ⟨rfl,d⟩;rw[e]at d;have H:Hid (FR B r w x.s a n c (Yh l x 3) w w4):=O d;clear d u A f m hr e b6 a0;go_wp2_with fail;refine(H.values (TH _ _) E P (Bq x.s 11 5) 0 30 5 7 (xv (q.below (H.be.mono g)) H.s T 11 5 (by omega) (by omega)) (by simp[Bq]) (by omega) (VR (ab (ab (show 0<14 by decide) q.glo) g)) (by rw[rU];exact D 4 (by decide)) Hg (af q.glo g)).mono ?_;rintro _ w5 ⟨rfl,d⟩;rw[rU]at d;have z:Hid (FR B r w x.s a n c (Yh l x 4) w w5):=O d;clear d H;obtain⟨ob,a0,b6⟩:=Yo (q.below (z.be.mono g)) kj {data:=#[111,114,100,101,114]} rfl (.agg #[.string (bs kj),oZ,.func (.func 291) #[] #[]]) rfl;go_wp2_with fail;have m:Below w5 w5 (w5.alloc (.cells #[.string (bs kj),oZ,.func (.func 291) #[] #[]] 97)):=(TH _ _).alloc (aa _) _;have A:=z.go m P;have f:=TL w5 (.cells #[.string (bs kj),oZ,.func (.func 291) #[] #[]] 97);have hr:=uG T
 have e:rS [(kj,0,x.s.order)]=ib x 4:=by simp[rS,FP,ib]
 refine(z.values m E P [(kj,0,x.s.order)] w5 0 1 1 (fun i y S=>?_) rfl (by omega) (VS ⟨_,_,_,f,by decide,by have:=z.be.size;omega⟩) (by rw[e];exact D 5 (by decide)) Hg (af q.glo g)).mono ?_
 .match i,S with
  |0,S=>
   cases S;have pl:=yq;refine⟨_,11,fun j v t=>?_,pl.call,pl.ent,VV A.s 11,by show 0<=18;omega,?_,?_⟩
   .match j,t with
    |0,t=>cases t;exact VV f 0
    |1,t=>cases t;exact VV f 1
    |2,t=>cases t;exact VV f 2
   .show _<=x.s.order;omega
   .show x.s.order<=_;omega
 rintro _ w6 ⟨rfl,d⟩;rw[e]at d;have K:Hid (FR B r w x.s a n c (Yh l x 5) w w6):=O d;clear d z A f m hr e b6 a0;go_wp2_with fail;refine(K.values (TH _ _) E P (Bq x.s 16 2) 0 45 2 2 (xv (q.below (K.be.mono g)) K.s T 16 2 (by omega) (by omega)) (by simp[Bq]) (by omega) (VR (ab (ab (show 0<14 by decide) q.glo) g)) (by rw[rU];exact D 6 (by decide)) Hg (af q.glo g)).mono ?_;rintro _ w7 ⟨rfl,d⟩;rw[rU]at d;have L:Hid (FR B r w x.s a n c (Yh l x 6) w w7):=O d;clear d K;have d5:w7.cell? ⟨w.heap.size,13,none⟩=some (.string x.s.e9):=VV L.s 13
 have M:ib x 6=if VX x.s.e9=[]then[]else iF [lP,VX x.s.e9]:=rfl
 rw[<- qO x.s.e9]at d5;have Q:=D 7 (by decide);rw[Yh,M]at Q;have H6:=O M;have c6:=O Q;clear M Q;generalize VX x.s.e9=gl at*
 go_upto_if 36 with fail
 go_cut [] (fun wx=>FR B r w x.s a n c (Yh l x 7) w wx)
 case first=>
  by_cases hgl:gl=[]
  .subst hgl
   have M:=H6.out;rw[aq rfl]at M
   have d4:Yh l x 7=Yh l x 6:=by rw[Yh,M,bG]
   have d9:=O d4;clear M d4;go_wp2;go_meet;rw[d9];exact L
  .have f4:(gl==[])=false:=by rw[ak];exact hgl
   have e3:gl.isEmpty=false:=by rw[List.isEmpty_eq_false_iff];exact hgl
   have M:=H6.out;have Q:=c6.out;rw[aj hgl]at M Q;have d6:=O M;have b9:=O Q;clear M Q;simp only[e3,fT];go_wp2_with fail;refine(L.line ((TH _ _).alloc (aa _) _) E P [lP,gl] (TL _ _) b9).mono ?_;rintro _ w8 ⟨rfl,d⟩;rw[<- d6]at d;have c0:=O d;clear d;go_wp2;go_meet;exact c0
 case rest=>
  have a4:=O hcut;clear hcut d5 H6 c6 L
  have e6:x.zs.length/3=n:=by have:=Hz.1;omega
  have e7:wc.cell? ⟨w.heap.size,21,none⟩=some (.slice a n c):=VV a4.s 21;have f6:n<=c:=Hz.2.1
  have h7:ib x 7=((List.range n).map (V3 x.zs)).flatten:=by rw[<- e6];rfl
  have H7:=O h7;clear h7;go_wp2
  go_loopw [45] (fun iv wr=>∃k:Nat,k<=n/\iv=.int .i64 (k:Int)/\FR B r w x.s a n c (Yh l x 7++((List.range k).map (V3 x.zs)).flatten) w wr) (fun iv _=>n-(intOf iv).toNat)
  case atStart=>exact⟨0,aA _,rfl,by simpa using a4.out⟩
  case round=>
   obtain⟨k,hk,rfl,d3⟩:=hrel;have a3:=O d3;clear d3 e7;by_cases a5:k<n
   .obtain⟨b,off,rfl,f2,z0,z1,z2⟩:=(Hz.below a3.be (aa _)).at3 a5
    have f7:=wH T (k:=k) (by omega);have b4:V3 x.zs k=iF [lG,iz (x.zs.getD (k*3) 0) 7,iz (x.zs.getD (k*3+1) 0) 0,iz (x.zs.getD (k*3+2) 0) 0]:=rfl;have W:=D 8 (by decide);rw[Yh,H7]at W;have W:=Yi (Yv (V3 x.zs) a5) W;rw[b4,<- aC]at W;have d8:=O b4;have d7:=O W;clear b4 W;generalize x.zs.getD (k*3) 0=q0 at*;generalize x.zs.getD (k*3+1) 0=q1 at*;generalize x.zs.getD (k*3+2) 0=q2 at*;go_wp2_with fail;have a2:=TL wr (.cells #[q0,q1,q2] 70);have m:Below wr wr (wr.alloc (.cells #[q0,q1,q2] 70)):=(TH _ _).alloc (aa _) _;have e0:=VV a2 0;have e1:=VV a2 1;have e2:=VV a2 2;have b7:=TK a2;have a8:=O m;clear a2 m z0 z1 z2;go_upto_region 12 with fail;have c8:GW wr:=Hg.of a3.be (af q.glo g);have a9:=O c8;clear c8;refine gS 11 [(0,true),(1,true),(2,true),(4,true),(5,true),(7,true),(8,true),(3,false),(6,false),(9,false),(10,false)] (by kernel_rfl) (by kernel_rfl) ?_
    iterate 7
     refine gU (v:=?_) ?_ ?_;rotate_left
     .intro y S
      have k1:=(S.cell (p:=J (wr.heap.size)) b7).trans e0;have k2:=(S.cell (p:=⟨wr.heap.size,1,none⟩) b7).trans e1;have k3:=(S.cell (p:=⟨wr.heap.size,2,none⟩) b7).trans e2;go_simp;with_reducible rfl
     try simp only[V]
    clear e0 e1 e2;refine gP (fun KK o=>?_);go_simp;refine(js q0 7 _ (by omega) (by omega) (by omega) (a9.below a8.drew)).mono ?_;rintro ee wa ⟨rfl,b1⟩;refine o _ _ b1 ?_;clear o KK;have b0:=a8.drew.trans (b1.mono a8.drew.size);(try simp only[V]);refine gP (fun KK o=>?_);go_simp;refine(js q1 0 wa (by omega) (by omega) (by omega) (a9.below b0)).mono ?_;rintro ee wb ⟨rfl,b2⟩;refine o _ _ b2 ?_;clear o KK;have X:=I b0 b2;(try simp only[V]);refine gP (fun KK o=>?_);go_simp;refine(js q2 0 wb (by omega) (by omega) (by omega) (a9.below X)).mono ?_;rintro ee wd ⟨rfl,b3⟩;refine o _ _ b3 ?_;clear o KK;have c7:=I X b3;(try simp only[V]);refine gP (fun KK o=>?_);go_simp;refine o _ _ ((TH _ _).alloc (aa _) _) ?_;clear o KK;(try simp only[V]);refine iu rfl ?_;have c3:=O c7;clear b0 X c7 b1 b2 b3;go_wp2_with fail;refine(a3.line (c3.alloc c3.size _) E P [lG,iz q0 7,iz q1 0,iz q2 0] (TL _ _) d7).mono ?_;rintro _ w9 ⟨rfl,d⟩;rw[<- d8,aC,<- qk]at d;have c1:=O d;clear d;go_wp2
    go_roundw
    case rel=>exact⟨k+1,by omega,by go_num,c1⟩
    case measure=>simp[intOf];omega
   .obtain rfl:k=n:=by omega
    go_wp2;go_end0;have hs:=a3.out;rw[<- H7]at hs;refine⟨rfl,?_,hs.be,hs.kt⟩;rw[<- Yl];exact hs.b
structure Tc (x:gR):Prop where
 i9:0<=x.i9/\x.i9<=1000000000
 p9:0<=x.p9/\x.p9<=1000000000
 stop:0<=x.stop/\x.stop<=16
 i4:0<=x.i4/\x.i4<=16
 fs:∀i,i<x.fs.length/2->(-1000000000<=x.fs.getD (i*2) 0/\x.fs.getD (i*2) 0<=1000000000)/\(-1000000000<=x.fs.getD (i*2+1) 0/\x.fs.getD (i*2+1) 0<=1000000000)
 ws:∀i,i<x.ws.length/2->(0<=x.ws.getD (i*2) 0/\x.ws.getD (i*2) 0<=2500000)/\(1<=x.ws.getD (i*2+1) 0/\x.ws.getD (i*2+1) 0<=100)
 l:∀y∈x.l,tr y=true
 cf:∀c∈x.cf,∀i,i<c.zs.length/3->(0<=c.zs.getD (i*3) 0/\c.zs.getD (i*3) 0<=16)/\(1<=c.zs.getD (i*3+1) 0/\c.zs.getD (i*3+1) 0<=17)/\(-1000000000<=c.zs.getD (i*3+2) 0/\c.zs.getD (i*3+2) 0<=1000000000)
def rV{n lo hi:Int}(h:bt n lo hi=true):lo<=n/\n<=hi:=by
 unfold bt at h;simp at h;exact h
def P6{s:gW}{p v:Int}(h1:1<=p)(h2:p<=17):(s.put p v).get p=v:=by
 obtain rfl|rfl|rfl|rfl|rfl|rfl|rfl|rfl|rfl|rfl|rfl|rfl|rfl|rfl|rfl|rfl|rfl:=oL h1 h2<;>rfl
def Of{l:List gM}{i p v:Int}(h:nT l i p v=true):(0<=i/\i<=(l.length:Int)-1)/\(1<=p/\p<=17)/\(-1000000000<=v/\v<=1000000000):=by
 unfold nT at h;rw[am]at h;obtain⟨h1,h2⟩:=h
 cases hx:l[i.toNat]? with
 |none=>rw[hx]at h2;cases h2
 |some x=>
  rw[hx]at h2;simp only[aD]at h2
  have a:nj x.s x.zs (x.zs.length/3) p=0:=by
   unfold mw at h2;split at h2
   .assumption
   .exact absurd h2 (by assumption)
  have d:tt x.s p=true:=by
   unfold nj at a;split at a
   .split at a
    .assumption
    .cases a
   .cases a
  have b:=oM d
  have e:oA (x.s.put p v) x.zs (x.zs.length/3)=true:=by
   unfold mw at h2;rw[aq a]at h2;split at h2
   .assumption
   .cases h2
  have c:=(uG e).1 p;rw[P6 b.1 b.2]at c;unfold qx at h1;simp only[am]at h1;exact⟨rV h1.1.1,b,c⟩
def JR{l:List gM}{zs:List Int}:∀{k:Nat}{l':List gM},tu l zs k=some l'->l'.length=l.length
 |0,l',h=>by unfold tu at h;cases h;rfl
 |k+1,l',h=>by
  unfold tu at h
  cases hc:tu l zs k with
  |none=>rw[hc]at h;cases h
  |some a=>
   rw[hc]at h;simp only[aO]at h;split at h
   .cases h
    rw[xP,JR hc]
   .cases h
def JS{l:List gM}{zs:List Int}:∀{k:Nat}{l':List gM},tu l zs k=some l'-> ∀i,i<k->(0<=zs.getD (i*3) 0/\zs.getD (i*3) 0<=(l.length:Int)-1)/\(1<=zs.getD (i*3+1) 0/\zs.getD (i*3+1) 0<=17)/\(-1000000000<=zs.getD (i*3+2) 0/\zs.getD (i*3+2) 0<=1000000000)
 |0,l',h,i,hi=>by omega
 |k+1,l',h,i,hi=>by
  unfold tu at h
  cases hc:tu l zs k with
  |none=>rw[hc]at h;cases h
  |some a=>
   rw[hc]at h;simp only[aO]at h;split at h
   .rename_i hq
    by_cases e:i=k
    .subst e
     have:=Of hq.2;rw[JR hc]at this;exact this
    .exact JS hc i (by omega)
   .cases h
def Cy{ws:List Int}{n:Nat}(h:(List.range n).all (jM ws)=true):∀i,i<n->299999<ws.getD (i*2) 0
 |0,hi=>by
  have:=an.1 h 0 (aJ.2 hi);unfold jM jR at this;simp at this;have h1:=this.1.1;simpa using h1
 |i+1,hi=>by
  have h1:=Cy h i (by omega);have:=an.1 h (i+1) (aJ.2 hi);unfold jM jR at this;rw[aj (by omega)]at this;simp only[am,aD,cY]at this;omega
def uH{x:gR}(h:iI x=true):Tc x:=by
 have d:∀k,k<6->jO x k=true:=fun k j=>an.1 h k (aJ.2 j)
 have h1:pN x.i9 x.p9=true:=d 1 (by omega);have h2:jx x.i9 x.fs (x.fs.length/2)=true:=d 2 (by omega);have h3:VY x.i4 x.ws (x.ws.length/2)=true:=d 3 (by omega);have a:iW x.stop x.l=true:=d 4 (by omega);have h5:jo x.l x.cf=true:=d 5 (by omega);unfold pN at h1;rw[am]at h1;have n:=rV h1.1;have o:=rV h1.2;unfold jx at h2;rw[am]at h2;unfold VY at h3;simp only[am]at h3;have p:=rV h3.1.2;have q:=rV h3.2;unfold iW at a;simp only[am]at a;have r:=rV a.1.1.1.1;have g2:=rV a.1.1.1.2;unfold jo at h5;simp only[am]at h5;refine⟨by omega,by omega,by omega,by omega,fun i hi=>?_,fun i hi=>?_,fun y m=>?_,fun c g i hi=>?_⟩
 .have:=an.1 h2.1 i (aJ.2 hi)
  unfold iV tc at this;simp only[am]at this;have a1:=rV this.1.1;have a2:=rV this.1.2
  have s:jj x.i9<=1000000000:=by unfold jj;split<;>omega
  omega
 .have f:=Cy h3.1.1 i hi
  have:=an.1 h3.1.1 i (aJ.2 hi);unfold jM at this;simp only[am,aD]at this;have a1:=rV this.2;omega
 .have e:=a.1.1.2
  unfold uM at e;rw[di,du]at e;have:=e y m;simpa using this
 .have b:=an.1 h5.1.1 c g
  unfold lr at b
  cases hch:tu x.l c.zs (c.zs.length/3)with
  |none=>rw[hch]at b;cases b
  |some l'=>
   have:=JS hch i hi;omega
abbrev mN:=List UInt8
def qP(v:mN):Prop:=v≠[]/\ ∀b∈v,b≠32/\b≠10/\b≠35
def yu(ws:List mN):Prop:=ws≠[]/\ ∀v∈ws,qP v
def uk:∀(v u l:List UInt8),(∀b∈v,b≠32)->iA u (v++l)=iA (u++v) l
 |[],u,l,_=>by simp
 |b::v,u,l,h=>by
  have a:Pc b=false:=ak.2 (h b aG);rw[bF,iA,a,aj (by simp),uk v (u++[b]) l (fun c d=>h c (au _ d))];simp
def yw:∀ws:List mN,(∀v∈ws,qP v)->iA [] (nN ws)=ws
 |[],_=>rfl
 |[x],h=>by
  have a:=h x aG;rw[nN,<- bG x,uk x [] [] (fun b c=>(a.2 b c).1),iA,aj (by simpa using a.1)];simp
 |x::y::l,h=>by
  have a:=h x aG;rw[nN,uk x [] _ (fun b c=>(a.2 b c).1),iA,show Pc 32=true from rfl,aq rfl,aj (by simpa using a.1),yw (y::l) (fun v d=>h v (au _ d))];simp
def vF:∀(A w t:List UInt8),io w (A++10::t)=io w A++io [] t
 |[],w,t=>rfl
 |b::A,w,t=>by
  rw[bF,io,io];cases hb:(b==10)
  .rw[aj (by simp),aj (by simp)];exact vF A _ t
  .rw[aq rfl,aq rfl,vF A [] t];rfl
def AE:∀(A w:List UInt8),(∀b∈A,b≠10)->io w A=[w++A]
 |[],w,_=>by rw[io,bG]
 |b::A,w,h=>by
  have a:(b==10)=false:=ak.2 (h b aG);rw[io,a,aj (by simp),AE A _ (fun c d=>h c (au _ d))];simp
def yx(ss:List (List UInt8)):List (List mN):=(ss.map (iA [])).filter fun ws=>!ti ws
def DU(t:List UInt8):List (List mN):=yx (io [] t)
def DV(a b:List (List UInt8)):yx (a++b)=yx a++yx b:=by unfold yx;rw[aT,dO]
def Oz(A t:List UInt8):DU (A++10::t)=DU A++DU t:=by unfold DU;rw[vF,DV]
def CG:∀(ws:List mN)(b:UInt8),b∈nN ws->b=32\/ ∃v∈ws,b∈v
 |[],b,h=>by cases h
 |[x],b,h=>VS ⟨x,aG,h⟩
 |x::y::l,b,h=>by
  rw[nN]at h
  obtain h|h:=bj.1 h
  .exact VS ⟨x,aG,h⟩
  .obtain h|h:=aS.1 h
   .exact VR h
   .obtain h|⟨v,hv,hb⟩:=CG (y::l) b h
    .exact VR h
    .exact VS ⟨v,au _ hv,hb⟩
def Md{ws:List mN}(h:yu ws):ti ws=false:=by
 obtain⟨h1,h2⟩:=h
 match ws,h1 with
 |v::ws,_=>
  have a:=h2 v aG
  match v,a with
  |b::v,a=>
   show(some b==some 35)=false
   have:=(a.2 b aG).2.2;rw[ak];intro e;cases e;exact this rfl
def Me{ws:List mN}(h:∀v∈ws,qP v):∀b∈nN ws,b≠10:=fun b a=>by
 obtain rfl|⟨v,hv,a⟩:=CG ws b a
 .decide
 .exact((h v hv).2 b a).2.1
def Mf{ws:List mN}(h:yu ws):DU (nN ws)=[ws]:=by
 unfold DU;rw[AE _ _ (Me h.2)];unfold yx;rw[bD,aN,bI,yw ws h.2,dE,Md h];rfl
def wL(L:List (List mN)):List UInt8:=(L.map iF).flatten
def yS(a b:List (List mN)):wL (a++b)=wL a++wL b:=by unfold wL;rw[aT,cG]
def sY(ws:List mN):wL [ws]=iF ws:=by simp[wL]
def OA(ws:List mN)(L:List (List mN)):wL (ws::L)=nN ws++10::wL L:=by simp[wL,iF]
def yT{α:Type}(f:α->List mN)(l:List α):(l.map fun i=>iF (f i)).flatten=wL (l.map f):=by
 unfold wL;rw[dD];rfl
def wM{α:Type}(f:α->List (List mN)):∀l:List α,(l.map fun i=>wL (f i)).flatten=wL (l.map f).flatten
 |[]=>rfl
 |a::l=>by rw[aN,ce,wM f l,aN,ce,yS]
def JT:∀L:List (List mN),(∀ws∈L,yu ws)->DU (wL L)=L
 |[],_=>rfl
 |ws::L,h=>by
  rw[OA,Oz,Mf (h ws aG),JT L (fun v a=>h v (au _ a))];rfl
def mq:jL->List (List mN)->Option jL
 |r,[]=>some r
 |r,w::ws=>(kp r w).bind fun q=>mq q ws
def ke:∀(a b:List (List mN))(r:jL),mq r (a++b)=(mq r a).bind fun q=>mq q b
 |[],b,r=>rfl
 |w::a,b,r=>by
  rw[bF,mq,mq]
  cases kp r w with
  |none=>rfl
  |some q=>exact ke a b q
def oy(r:jL)(w:List mN):mq r [w]=kp r w:=by
 rw[mq];cases kp r w<;>rfl
def vG:∀(ss:List (List UInt8))(i:Nat)(r q:jL),mq r (yx ss)=some q->lR i r ss=.ok q
 |[],i,r,q,h=>by cases h;rfl
 |s::ss,i,r,q,h=>by
  unfold yx at h;rw[aN,dE]at h;rw[lR];cases hs:ti (iA [] s)
  .rw[hs]at h
   rw[fT,aq rfl,mq]at h;rw[aj (by simp)]
   cases hl:kp r (iA [] s)with
   |none=>rw[hl]at h;cases h
   |some a=>rw[hl]at h;exact vG ss (i+1) a q h
  .rw[hs]at h
   rw[gf,aj (by simp)]at h;rw[aq rfl];exact vG ss (i+1) r q h
def WG:∀(ss:List (List UInt8))(i:Nat)(r:jL),mq r (yx ss)=none-> ∃j,lR i r ss=.error j
 |[],i,r,h=>by cases h
 |s::ss,i,r,h=>by
  unfold yx at h;rw[aN,dE]at h;rw[lR];cases hs:ti (iA [] s)
  .rw[hs]at h
   rw[fT,aq rfl,mq]at h;rw[aj (by simp)]
   cases hl:kp r (iA [] s)with
   |none=>exact⟨_,rfl⟩
   |some a=>rw[hl]at h;exact WG ss (i+1) a h
  .rw[hs]at h
   rw[gf,aj (by simp)]at h;rw[aq rfl];exact WG ss (i+1) r h
def Mg{t:List UInt8}{q:jL}(c:t.length<=20000)(h:mq Ae (DU t)=some q)(a:q.at_=9)(b:iI q.x=true):nr t=⟨q.x,0,0⟩:=by
 unfold nr;rw[aj (by omega),vG _ 0 Ae q h];simp only[a,ne_eq,not_true_eq_false,de];rw[aq b]
def ny{n:Int}(d:Nat)(h1: -1000000000<=n)(h2:n<=1000000000):VZ (iz n d) d=some n:=by
 have a:=pG d (n.natAbs%10^d);have b:=Ox n d
 have hf:rP n=true:=by unfold rP;simp;omega
 have c:Fj (iz n d) d=0:=by
  unfold Fj;rw[B6];simp only;rw[aq a,b,aq hf]
 have e:Fi (iz n d) d=n:=by
  unfold Fi;rw[B6];simp only;rw[b,aq ⟨a,hf⟩]
 unfold VZ;rw[aq c,e]
def mZ(n:Int)(d:Nat):qP (iz n d):=by
 have h:=CF n d;refine⟨h.1,fun b a=>?_⟩;have h2:=Oy (h.2 b a);have h3:=h2.1;unfold K7 at h3;simp at h3;exact⟨h3.1,h2.2⟩
def ul(s:gW)(p:Nat):List (List mN):=if s.get (p:Int)=0 then[]else[[km p,iz (s.get (p:Int)) (oo p)]]
def pK(s:gW)(a n:Nat):List (List mN):=((List.range n).map fun i=>ul s (a+i)).flatten
def AF(zs:List Int)(i:Nat):List mN:=[lG,iz (zs.getD (i*3) 0) 7,iz (zs.getD (i*3+1) 0) 0,iz (zs.getD (i*3+2) 0) 0]
def yy(s:gW):List (List mN):=if s.i7=0 then[]else[[lB,iz s.i7 6]]
def um(s:gW):List (List mN):=if s.order=0 then[]else[[kj,iz s.order 0]]
def uo(s:gW):List (List mN):=if VX s.e9=[]then[]else[[lP,VX s.e9]]
def AG(x:gM):List (List mN):=pK x.s 1 10++yy x.s++pK x.s 11 5++um x.s++pK x.s 16 2++uo x.s++(List.range (x.zs.length/3)).map (AF x.zs)
def sZ(x:gM):List (List mN):=[nq,kP.getD (x.s.kind-1).toNat []]::AG x
def uK(zs:List Int)(i:Nat):List mN:=[lj,iz (zs.getD (i*3) 0) 0,km (zs.getD (i*3+1) 0).toNat,iz (zs.getD (i*3+2) 0) (oo (zs.getD (i*3+1) 0).toNat)]
def yz(c:jd):List (List mN):=[mc,VX c.nm]::(List.range (c.zs.length/3)).map (uK c.zs)
def AH(fs:List Int)(i:Nat):List mN:=[vB,iz (fs.getD (i*2) 0) 6,iz (fs.getD (i*2+1) 0) 6]
def FV(ws:List Int)(i:Nat):List mN:=[Ab,iz (ws.getD (i*2) 0) 3,iz (ws.getD (i*2+1) 0) 0]
def CH(x:gR):List (List mN):=[[xZ,VX x.nm],[sO,if x.i9=0 then lQ else iz x.i9 6],[vA,iz x.p9 6],[Aa,iz x.stop 0],[qJ,iz x.i4 0]]
def AI(x:gR):List (List mN):=
 CH x++(List.range (x.fs.length/2)).map (AH x.fs)++(List.range (x.ws.length/2)).map (FV x.ws)++(x.l.map sZ).flatten++(x.cf.map yz).flatten++[[Fp]]
def P9(s:gW)(p:Nat):Ld s p=wL (ul s p):=by
 unfold Ld ul;split
 .rfl
 .rw[sY]
def OB(s:gW)(a n:Nat):ub s a n=wL (pK s a n):=by
 unfold ub pK;rw[<- wM];congr 2;funext i;exact P9 s _
def OC(x:gM):oq x=wL (sZ x):=by
 unfold oq sZ AG;rw[show([nq,kP.getD (x.s.kind-1).toNat []]::(pK x.s 1 10++yy x.s++pK x.s 11 5++um x.s++pK x.s 16 2++uo x.s++(List.range (x.zs.length/3)).map (AF x.zs)))=[[nq,kP.getD (x.s.kind-1).toNat []]]++(pK x.s 1 10++yy x.s++pK x.s 11 5++um x.s++pK x.s 16 2++uo x.s++(List.range (x.zs.length/3)).map (AF x.zs))from rfl];simp only[yS,sY,OB]
 have h1:(if x.s.i7=0 then[]else iF [lB,iz x.s.i7 6])=wL (yy x.s):=by
  unfold yy;split
  .rfl
  .rw[sY]
 have h2:(if x.s.order=0 then[]else iF [kj,iz x.s.order 0])=wL (um x.s):=by
  unfold um;split
  .rfl
  .rw[sY]
 have h3:(if VX x.s.e9=[]then[]else iF [lP,VX x.s.e9])=wL (uo x.s):=by
  unfold uo;split
  .rfl
  .rw[sY]
 have a:((List.range (x.zs.length/3)).map (V3 x.zs)).flatten=wL ((List.range (x.zs.length/3)).map (AF x.zs)):=yT (AF x.zs) _;rw[h1,h2,h3,a];simp only[aC]
def OD(c:jd):ot c=wL (yz c):=by
 unfold ot yz;rw[show([mc,VX c.nm]::(List.range (c.zs.length/3)).map (uK c.zs))=[[mc,VX c.nm]]++(List.range (c.zs.length/3)).map (uK c.zs)from rfl,yS,sY];congr 1;exact yT (uK c.zs) _
def OE(x:gR):Fq x=wL (CH x):=by
 unfold Fq CH wL;simp only[aN,bI,ce,List.flatten_nil,bG,aC]
def OF(x:gR):nO x=wL (AI x):=by
 unfold nO AI;have h1:((List.range (x.fs.length/2)).map (nE x.fs)).flatten=wL ((List.range (x.fs.length/2)).map (AH x.fs)):=yT (AH x.fs) _;have h2:((List.range (x.ws.length/2)).map (qK x.ws)).flatten=wL ((List.range (x.ws.length/2)).map (FV x.ws)):=yT (FV x.ws) _
 have h3:(x.l.map oq).flatten=wL (x.l.map sZ).flatten:=by
  rw[<- wM];congr 2;funext y;exact OC y
 have a:(x.cf.map ot).flatten=wL (x.cf.map yz).flatten:=by
  rw[<- wM];congr 2;funext y;exact OD y
 rw[h1,h2,h3,a,OE];simp only[yS,sY]
def DW{s:ByteArray}(h:kI s=true):qP (VX s):=by
 unfold kI at h;simp only[am,aD]at h;obtain⟨⟨h1,h2⟩,_⟩:=h;refine⟨fun e=>?_,fun b a=>?_⟩
 .have:s.data.toList.length=0:=by rw[show s.data.toList=[]from e];rfl
  have h3:s.size=s.data.toList.length:=by rw[fe];rfl
  omega
 .have:=an.1 h1 b a
  refine⟨?_,?_,?_⟩ <;>(rintro rfl;revert this;decide)
def FW{p:Nat}(h1:1<=p)(h2:p<=17):qP (km p):=by
 have:∀p,p<18->1<=p->qP (km p):=by unfold qP;decide
 exact this p (by omega) h1
def kf{f:mN}{ws:List mN}(h:qP f)(h2:∀v∈ws,qP v):yu (f::ws):=⟨by simp,fun v a=>by
 obtain rfl|a:=aS.1 a
 .exact h
 .exact h2 v a⟩
def Wc(l:mN)(h:(!l.isEmpty&&l.all fun b=>b !=32&&b !=10&&b !=35)=true):qP l:=by
 simp only[am,di,an,fk,ne_eq]at h;exact⟨fun e=>by subst e;simp at h,fun b a=>⟨(h.2 b a).1.1,(h.2 b a).1.2,(h.2 b a).2⟩⟩
def pR{v:mN}(h:qP v):∀u∈ [v],qP u:=fun u a=>by rw[aK.1 a];exact h
def IV{v w:mN}(h:qP v)(h2:qP w):∀u∈ [v,w],qP u:=fun u a=>by
 obtain rfl|a:=aS.1 a
 .exact h
 .exact pR h2 u a
def FX{v w z:mN}(h:qP v)(h2:qP w)(h3:qP z):∀u∈ [v,w,z],qP u:=fun u a=>by
 obtain rfl|a:=aS.1 a
 .exact h
 .exact IV h2 h3 u a
def FY(s:gW){p:Nat}(h1:1<=p)(h2:p<=17):∀w∈ul s p,yu w:=fun w hw=>by
 unfold ul at hw;split at hw
 .cases hw
 .rw[aK.1 hw];exact kf (FW h1 h2) (pR (mZ _ _))
def vH(s:gW){a n:Nat}(h1:1<=a)(h2:a+n<=18):∀w∈pK s a n,yu w:=fun w hw=>by
 unfold pK at hw;obtain⟨l,b,hw⟩:=eP.1 hw;obtain⟨i,hi,rfl⟩:=cP.1 b;have:=aJ.1 hi;exact FY s (by omega) (by omega) w hw
def AJ{s:gW}{zs:List Int}{n:Nat}(h:oA s zs n=true)(b:VX s.e9≠[]):kI s.e9=true:=by
 unfold oA at h;rw[am]at h;have a:pC s zs n 5=true:=an.1 h.1 5 (by decide);have a:rI s=true:=a;unfold rI at a;rw[dN]at a
 obtain a|a:=a
 .rw[List.isEmpty_iff]at a
  have:s.e9.data.toList=[]:=by rw[<- ByteArray.toList_eq];exact a
  exact absurd this b
 .exact a
def FZ{s:gW}{zs:List Int}{n:Nat}(h:oA s zs n=true):1<=s.kind/\s.kind<=4:=by
 unfold oA at h;rw[am]at h;have h0:pC s zs n 0=true:=an.1 h.1 0 (by decide);have h0:rK s zs=true:=h0;unfold rK at h0;rw[am]at h0;exact Ej h0.1
def OG{k:Nat}(h:k<4):qP (kP.getD k []):=by
 have:∀k,k<4->qP (kP.getD k []):=by unfold qP;decide
 exact this k h
def F8{x:gM}(h:tr x=true):∀w∈sZ x,yu w:=fun w hw=>by
 have a:=FZ h;unfold sZ AG at hw;simp only[aS,bj]at hw
 rcases hw with rfl|(((((hw|hw)|hw)|hw)|hw)|hw)|hw
 .exact kf (Wc _ (by decide)) (pR (OG (by omega)))
 .exact vH x.s (by omega) (by omega) w hw
 .unfold yy at hw
  split at hw
  .cases hw
  .rw[aK.1 hw];exact kf (Wc _ (by decide)) (pR (mZ _ _))
 .exact vH x.s (by omega) (by omega) w hw
 .unfold um at hw
  split at hw
  .cases hw
  .rw[aK.1 hw];exact kf (Wc _ (by decide)) (pR (mZ _ _))
 .exact vH x.s (by omega) (by omega) w hw
 .unfold uo at hw
  split at hw
  .cases hw
  .rename_i hg
   rw[aK.1 hw];exact kf (Wc _ (by decide)) (pR (DW (AJ h hg)))
 .obtain⟨i,_,rfl⟩:=cP.1 hw
  exact kf (Wc _ (by decide)) (FX (mZ _ _) (mZ _ _) (mZ _ _))
def IW{ks:List ByteArray}(h:vV ks=true):∀k∈ks,kI k=true:=fun k a=>by
 obtain⟨i,hi,rfl⟩:=List.mem_iff_getElem.1 a;have:=an.1 h i (aJ.2 hi);unfold od at this;rw[ae hi]at this;simp only[am]at this;exact this.2
def AK{x:gR}(h:iI x=true):∀c∈x.cf,kI c.nm=true:=fun c a=>by
 have h5:jo x.l x.cf=true:=an.1 h 5 (by decide);unfold jo at h5;rw[am]at h5;exact IW h5.2 c.nm (cP.2 ⟨c,a,rfl⟩)
def AL{x:gR}(h:iI x=true):kI x.nm=true:=an.1 h 0 (by decide)
def IX{x:gR}(h:iI x=true):∀w∈AI x,yu w:=fun w hw=>by
 have d:=uH h;unfold AI CH at hw;simp only[bj,aS,bi,cR]at hw
 rcases hw with((((hw|hw)|hw)|hw)|hw)|rfl
 .obtain rfl|rfl|rfl|rfl|rfl:=hw
  .exact kf (Wc _ (by decide)) (pR (DW (AL h)))
  .refine kf (Wc _ (by decide)) (pR ?_)
   split
   .exact Wc _ (by decide)
   .exact mZ _ _
  .exact kf (Wc _ (by decide)) (pR (mZ _ _))
  .exact kf (Wc _ (by decide)) (pR (mZ _ _))
  .exact kf (Wc _ (by decide)) (pR (mZ _ _))
 .obtain⟨i,_,rfl⟩:=cP.1 hw
  exact kf (Wc _ (by decide)) (IV (mZ _ _) (mZ _ _))
 .obtain⟨i,_,rfl⟩:=cP.1 hw
  exact kf (Wc _ (by decide)) (IV (mZ _ _) (mZ _ _))
 .obtain⟨l,a,hw⟩:=eP.1 hw
  obtain⟨y,f,rfl⟩:=cP.1 a;exact F8 (d.l y f) w hw
 .obtain⟨l,a,hw⟩:=eP.1 hw
  obtain⟨c,b,rfl⟩:=cP.1 a;unfold yz at hw
  obtain rfl|hw:=aS.1 hw
  .exact kf (Wc _ (by decide)) (pR (DW (AK h c b)))
  .obtain⟨i,hi,rfl⟩:=cP.1 hw
   have:=d.cf c b i (aJ.1 hi);exact kf (Wc _ (by decide)) (FX (mZ _ _) (FW (by omega) (by omega)) (mZ _ _))
 .exact kf (Wc _ (by decide)) (fun v e=>by cases e)
def nt{r:jL}{f:mN}{ws:List mN}{k:Nat}{y:gR}(a:r.at_≠9)(hf:kV.findIdx? (· ==f)=some k)(b:(k:Int)=r.at_+1\/(5<=k/\4<=r.at_/\r.at_<=(k:Int)))(c:jk r.x k ws=some y):kp r (f::ws)=some ⟨y,(k:Int),[]⟩:=by
 unfold kp;rw[aj a];simp only[hf];rw[aq b,c];rfl
def AM{r:jL}{f:mN}{ws:List mN}(a:r.at_=7)(hf:kV.findIdx? (· ==f)=none):kp r (f::ws)=lX r f ws:=by
 unfold kp lX;rw[aj (by rw[a];decide)];simp only[hf];rw[aq a]
def IY{r:jL}{ws:List mN}(a:r.at_=8):kp r (lj::ws)=(ou r.x.cf fun c=>sP c (lj::ws)).map fun cf=>⟨{r.x with cf:=cf},8,r.seen⟩:=by
 have hf:kV.findIdx? (· ==lj)=none:=by decide+kernel
 unfold kp;rw[aj (by rw[a];decide)];simp only[hf];rw[aj (by rw[a];decide),aq ⟨a,trivial⟩]
def mH{p:Nat}(h1:1<=p)(h2:p<=17):kV.findIdx? (· ==km p)=none/\kO.findIdx? (· ==km p)=some (p-1)/\km p≠lG/\km p≠lP/\km p≠lB/\km p≠kj:=by
 have:∀p,p<18->1<=p->kV.findIdx? (· ==km p)=none/\kO.findIdx? (· ==km p)=some (p-1)/\km p≠lG/\km p≠lP/\km p≠lB/\km p≠kj:=by decide+kernel
 exact this p (by omega) h1
def Ga{p q:Nat}(h1:1<=p)(h2:p<=17)(h3:1<=q)(c:q<=17)(h:km p=km q):p=q:=by
 have a:=(mH h1 h2).2.1;have b:=(mH h3 c).2.1;rw[h,b]at a;have:=aE a;omega
def up{p:Nat}(h1:1<=p)(h2:p<=17):rD (km p)=some p:=by
 rw[ug (mH h1 h2).2.1,Nat.sub_add_cancel h1]
def Gp(y:gR)(l0:List gM)(t:gW)(zs:List Int)(seen:List mN):jL:=⟨{y with l:=l0++[⟨t,zs⟩]},7,seen⟩
def DX(y:gR)(l0:List gM)(t:gW)(zs:List Int)(seen:List mN){f:mN}{d:Nat}{n:Int}(b:kV.findIdx? (· ==f)=none)(h1:f≠lG)(h2:f≠lP)(a:Dv f=some d)(c:f ∉ seen)(e: -1000000000<=n)(g:n<=1000000000):
 kp (Gp y l0 t zs seen) [f,iz n d]=some (Gp y l0 (Ac t f n) zs (seen++[f])):=by
 rw[AM rfl b,nS (l0:=l0) (y:=⟨t,zs⟩) rfl h1 c,aj h2,a];simp only;rw[ny d e g];rfl
def OH{t:gW}{p:Int}(h1:1<=p)(h2:p<=17)(h:t.get p=0):t.put p 0=t:=by
 obtain⟨k,c1,c2,c3,c4,c5,n,o,q,r,a,b,c,d,e,f,g,i,j,l,m⟩:=t
 obtain rfl|rfl|rfl|rfl|rfl|rfl|rfl|rfl|rfl|rfl|rfl|rfl|rfl|rfl|rfl|rfl|rfl:=oL h1 h2<;>(simp[gW.get]at h;subst h;rfl)
def IZ{t:gW}{p q v:Int}(h1:1<=p)(h2:p<=17)(h:p≠q):(t.put p v).get q=t.get q:=by
 obtain rfl|rfl|rfl|rfl|rfl|rfl|rfl|rfl|rfl|rfl|rfl|rfl|rfl|rfl|rfl|rfl|rfl:=oL h1 h2<;>(unfold gW.get gW.put;simp[h.symm])
def Mi(y:gR)(l0:List gM)(t:gW)(zs:List Int)(seen:List mN)(s:gW){p:Nat}(h1:1<=p)(h2:p<=17)(r: -1000000000<=s.get (p:Int)/\s.get (p:Int)<=1000000000)(g:t.get (p:Int)=0)(e:km p ∉ seen):
 ∃a,(∀f∈a,f∈seen\/f=km p)/\mq (Gp y l0 t zs seen) (ul s p)=some (Gp y l0 (t.put (p:Int) (s.get (p:Int))) zs a):=by
 obtain⟨f1,i,f3,b,-,-⟩:=mH h1 h2;unfold ul;split
 .rename_i h0
  refine⟨seen,fun f h=>VR h,?_⟩;rw[h0,OH (by omega) (by omega) g];rfl
 .refine⟨seen++[km p],fun f h=>by simpa using h,?_⟩
  have c:Ac t (km p) (s.get (p:Int))=t.put (p:Int) (s.get (p:Int)):=by unfold Ac;rw[up h1 h2]
  rw[oy,DX y l0 t zs seen f1 f3 b (d:=oo p) (by unfold Dv;rw[up h1 h2]) e r.1 r.2,c]
def jS(t s:gW)(a:Nat):Nat->gW
 |0=>t
 |n+1=>(jS t s a n).put ((a+n:Nat):Int) (s.get ((a+n:Nat):Int))
def uq{t s:gW}{a:Nat}(b:1<=a):∀{n:Nat}{q:Nat},a+n<=18->a+n<=q->(jS t s a n).get (q:Int)=t.get (q:Int)
 |0,q,_,_=>rfl
 |n+1,q,h1,h2=>by
  rw[jS,IZ (by omega) (by omega) (by omega)];exact uq b (by omega) (by omega)
def I4(s:gW)(a n:Nat):pK s a (n+1)=pK s a n++ul s (a+n):=by
 unfold pK;rw[bV,aT,cG];simp
def wN(y:gR)(l0:List gM)(t:gW)(zs:List Int)(seen:List mN)(s:gW)(r:∀p:Int,-1000000000<=s.get p/\s.get p<=1000000000){a:Nat}(c:1<=a)(g:∀q:Nat,a<=q->q<=17->t.get (q:Int)=0)(e:∀q:Nat,a<=q->q<=17->km q ∉ seen):
 ∀n,a+n<=18-> ∃b,(∀f∈b,f∈seen\/ ∃q,a<=q/\q<a+n/\f=km q)/\mq (Gp y l0 t zs seen) (pK s a n)=some (Gp y l0 (jS t s a n) zs b)
 |0,_=>⟨seen,fun f h=>VR h,rfl⟩
 |n+1,h=>by
  obtain⟨sn,h1,h2⟩:=wN y l0 t zs seen s r c g e n (by omega)
  have d:km (a+n) ∉ sn:=fun k=>by
   obtain h3|⟨q,q1,q2,q3⟩:=h1 _ k
   .exact e (a+n) (by omega) (by omega) h3
   .have:=Ga (by omega) (by omega) (by omega) (by omega) q3
    omega
  obtain⟨i,h3,j⟩:=Mi y l0 (jS t s a n) zs sn s (p:=a+n) (by omega) (by omega) (r _) (by rw[uq c (by omega) (by omega)];exact g _ (by omega) (by omega)) d;refine⟨i,fun f hf=>?_,by rw[I4,ke,h2];exact j⟩
  obtain h5|h5:=h3 f hf
  .obtain h6|⟨q,q1,q2,q3⟩:=h1 f h5
   .exact VR h6
   .exact VS ⟨q,q1,by omega,q3⟩
  .exact VS ⟨a+n,by omega,by omega,h5⟩
def OI(y:gR)(l0:List gM)(t:gW)(zs:List Int)(seen:List mN)(s:gW)(r:0<=s.i7/\s.i7<=1000000000)(c:t.i7=0)(b:lB ∉ seen):
 ∃a,(∀f∈a,f∈seen\/f=lB)/\mq (Gp y l0 t zs seen) (yy s)=some (Gp y l0 {t with i7:=s.i7} zs a):=by
 unfold yy;split
 .rename_i h0
  refine⟨seen,fun f h=>VR h,?_⟩;rw[h0,<- c];rfl
 .refine⟨seen++[lB],fun f h=>by simpa using h,?_⟩
  rw[oy,DX y l0 t zs seen (by decide+kernel) (by decide+kernel) (by decide+kernel) (d:=6) (by decide+kernel) b (by omega) r.2];rfl
def Mj(y:gR)(l0:List gM)(t:gW)(zs:List Int)(seen:List mN)(s:gW)(r: -3<=s.order/\s.order<=3)(c:t.order=0)(b:kj ∉ seen):
 ∃a,(∀f∈a,f∈seen\/f=kj)/\mq (Gp y l0 t zs seen) (um s)=some (Gp y l0 {t with order:=s.order} zs a):=by
 unfold um;split
 .rename_i h0
  refine⟨seen,fun f h=>VR h,?_⟩;rw[h0,<- c];rfl
 .refine⟨seen++[kj],fun f h=>by simpa using h,?_⟩
  rw[oy,DX y l0 t zs seen (by decide+kernel) (by decide+kernel) (by decide+kernel) (d:=0) (by decide+kernel) b (by omega) (by omega)];rfl
def Mk(y:gR)(l0:List gM)(t:gW)(zs:List Int)(seen:List mN)(s:gW)(b:t.e9={data:=#[]})(hs:lP ∉ seen):
 ∃a,mq (Gp y l0 t zs seen) (uo s)=some (Gp y l0 {t with e9:=s.e9} zs a):=by
 unfold uo;split
 .rename_i h0
  refine⟨seen,?_⟩;rw[Cx h0,<- b];rfl
 .refine⟨seen++[lP],?_⟩
  rw[oy,AM rfl (by decide+kernel),nS (l0:=l0) (y:=⟨t,zs⟩) rfl (by decide+kernel) hs,aq rfl,qO];rfl
def AN{zs:List Int}{n:Nat}(h:(n+1)*3<=zs.length):zs.take ((n+1)*3)=zs.take (n*3)++[zs.getD (n*3) 0,zs.getD (n*3+1) 0,zs.getD (n*3+2) 0]:=by
 have h1:∀k,k<zs.length->zs.take (k+1)=zs.take k++[zs.getD k 0]:=fun k a=>by
  rw[List.take_succ,ae a,ah,ae a];rfl
 rw[show(n+1)*3=n*3+1+1+1 by omega,h1 (n*3+1+1) (by omega),h1 (n*3+1) (by omega),h1 (n*3) (by omega)];simp only[aC,bF,bD]
def Gc{zs:List Int}{n:Nat}(h:(n+1)*2<=zs.length):zs.take ((n+1)*2)=zs.take (n*2)++[zs.getD (n*2) 0,zs.getD (n*2+1) 0]:=by
 have h1:∀k,k<zs.length->zs.take (k+1)=zs.take k++[zs.getD k 0]:=fun k a=>by
  rw[List.take_succ,ae a,ah,ae a];rfl
 rw[show(n+1)*2=n*2+1+1 by omega,h1 (n*2+1) (by omega),h1 (n*2) (by omega)];simp only[aC,bF,bD]
def I5{a b c:Int}{d e f:Nat}(h1: -1000000000<=a/\a<=1000000000)(h2: -1000000000<=b/\b<=1000000000)(h3: -1000000000<=c/\c<=1000000000):kF [iz a d,iz b e,iz c f] [d,e,f]=some [a,b,c]:=by
 simp[kF,ny d h1.1 h1.2,ny e h2.1 h2.2,ny f h3.1 h3.2]
def Gd{a b:Int}{d e:Nat}(h1: -1000000000<=a/\a<=1000000000)(h2: -1000000000<=b/\b<=1000000000):kF [iz a d,iz b e] [d,e]=some [a,b]:=by
 simp[kF,ny d h1.1 h1.2,ny e h2.1 h2.2]
def CI(y:gR)(l0:List gM)(t:gW)(x:gM)(seen:List mN)(a:tr x=true):∀n,n<=x.zs.length/3->mq (Gp y l0 t [] seen) ((List.range n).map (AF x.zs))=some (Gp y l0 t (x.zs.take (n*3)) seen)
 |0,_=>by simp[mq]
 |n+1,h=>by
  have b:=wH a (k:=n) (by omega);rw[bV,aT,ke,CI y l0 t x seen a n (by omega),aO,aN,bI,oy];unfold AF;rw[AM rfl (by decide+kernel),sW (l0:=l0) (y:=⟨t,x.zs.take (n*3)⟩) rfl,I5 (by omega) (by omega) (by omega),AN (by omega)];rfl
def OJ(s:gW)(k:Nat)(a:(k:Int)=s.kind):{jS {jS {jS (lJ k).s s 1 10 with i7:=s.i7} s 11 5 with order:=s.order} s 16 2 with e9:=s.e9}=s:=by
 obtain⟨k0,c1,c2,c3,c4,c5,n,o,p,q,b,c,d,e,f,g,h,i,j,l,m⟩:=s;subst a;rfl
def OK(t:gW)(h q:Int):({t with i7:=h}:gW).get q=t.get q:=rfl
def Ml(t:gW)(h q:Int):({t with order:=h}:gW).get q=t.get q:=rfl
def SZ{t:gW}{p v:Int}(h:¬(1<=p/\p<=17)):t.put p v=t:=by
 unfold gW.put;rw[aj (by omega),aj (by omega),aj (by omega),aj (by omega),aj (by omega),aj (by omega),aj (by omega),aj (by omega),aj (by omega),aj (by omega),aj (by omega),aj (by omega),aj (by omega),aj (by omega),aj (by omega),aj (by omega),aj (by omega)]
def AO(t:gW)(p v:Int)(Q:gW->Prop)(h1:Q {t with t8:=v})(h2:Q {t with r9:=v})(h3:Q {t with i5:=v})(h4:Q {t with cm:=v})(h5:Q {t with a0:=v})(h6:Q {t with a1:=v})(h7:Q {t with a2:=v})(h8:Q {t with a3:=v})(h9:Q {t with tx:=v})(h10:Q {t with i6:=v})(h11:Q {t with dx:=v})(h12:Q {t with dy:=v})(h13:Q {t with ax:=v})(h14:Q {t with ay:=v})(h15:Q {t with az:=v})(h16:Q {t with p0:=v})(h17:Q {t with p1:=v})(h0:Q t):Q (t.put p v):=by
 by_cases a:1<=p/\p<=17
 .obtain rfl|rfl|rfl|rfl|rfl|rfl|rfl|rfl|rfl|rfl|rfl|rfl|rfl|rfl|rfl|rfl|rfl:=oL a.1 a.2
  .exact h1
  .exact h2
  .exact h3
  .exact h4
  .exact h5
  .exact h6
  .exact h7
  .exact h8
  .exact h9
  .exact h10
  .exact h11
  .exact h12
  .exact h13
  .exact h14
  .exact h15
  .exact h16
  .exact h17
 .have e:t.put p v=t:=by
   unfold gW.put;rw[aj (by omega),aj (by omega),aj (by omega),aj (by omega),aj (by omega),aj (by omega),aj (by omega),aj (by omega),aj (by omega),aj (by omega),aj (by omega),aj (by omega),aj (by omega),aj (by omega),aj (by omega),aj (by omega),aj (by omega)]
  rw[e];exact h0
def OL(t:gW)(p v:Int):(t.put p v).i7=t.i7:=AO t p v (fun u=>u.i7=t.i7) rfl rfl rfl rfl rfl rfl rfl rfl rfl rfl rfl rfl rfl rfl rfl rfl rfl rfl
def Mm(t:gW)(p v:Int):(t.put p v).order=t.order:=AO t p v (fun u=>u.order=t.order) rfl rfl rfl rfl rfl rfl rfl rfl rfl rfl rfl rfl rfl rfl rfl rfl rfl rfl
def Mn(t:gW)(p v:Int):(t.put p v).e9=t.e9:=AO t p v (fun u=>u.e9=t.e9) rfl rfl rfl rfl rfl rfl rfl rfl rfl rfl rfl rfl rfl rfl rfl rfl rfl rfl
def CJ(t s:gW)(a:Nat):∀n,(jS t s a n).i7=t.i7
 |0=>rfl
 |n+1=>by rw[jS,OL,CJ t s a n]
def vI(t s:gW)(a:Nat):∀n,(jS t s a n).order=t.order
 |0=>rfl
 |n+1=>by rw[jS,Mm,vI t s a n]
def ta(t s:gW)(a:Nat):∀n,(jS t s a n).e9=t.e9
 |0=>rfl
 |n+1=>by rw[jS,Mn,ta t s a n]
def Qa(k:Nat){q:Nat}(h1:1<=q)(h2:q<=17):(lJ k).s.get (q:Int)=0:=by
 have:∀q:Nat,q<18->1<=q->(lJ 0).s.get (q:Int)=0:=by decide+kernel
 exact this q (by omega) h1
def Mo{k:Nat}(h:k<4):kP.findIdx? (· ==kP.getD k [])=some k:=by
 have:∀k,k<4->kP.findIdx? (· ==kP.getD k [])=some k:=by decide+kernel
 exact this k h
def CK{t s:gW}{a n:Nat}(c:1<=a)(b:a+n<=18)(d:∀q:Nat,a<=q->q<=17->t.get (q:Int)=0):∀q:Nat,a+n<=q->q<=17->(jS t s a n).get (q:Int)=0:=fun q h1 h2=>by
 rw[uq c b h1];exact d q (by omega) h2
def oz{sn:List mN}{a n:Nat}{base:List mN}(i:1<=a)(j:a+n<=18)(h:∀f∈sn,f∈base\/ ∃q,a<=q/\q<a+n/\f=km q){f:mN}(d:f ∉ base)(hf:(f=lB\/f=kj\/f=lP\/ ∃q,(q<a\/a+n<=q)/\1<=q/\q<=17/\f=km q)):f ∉ sn:=fun e=>by
 obtain h1|⟨q,q1,q2,q3⟩:=h f e
 .exact d h1
 .obtain⟨-,-,g,g2,b,c⟩:=mH (p:=q) (by omega) (by omega)
  obtain rfl|rfl|rfl|⟨p,p1,p2,p3,p4⟩:=hf
  .exact b q3.symm
  .exact c q3.symm
  .exact g2 q3.symm
  .have:=Ga p2 p3 (by omega) (by omega) (p4.symm.trans q3)
   omega
def rY{sn a:List mN}{g f:mN}(h:∀f∈a,f∈sn\/f=g)(h1:f ∉ sn)(h2:f≠g):f ∉ a:=fun b=>(h f b).elim h1 h2
def I6(x:gM)(i:tr x=true)(A:x.zs.length=x.zs.length/3*3)(y:gR)(l0:List gM)(k:Nat)(z:(k:Int)=x.s.kind):
 ∃seen,mq (Gp y l0 (lJ k).s [] []) (AG x)=some (Gp y l0 x.s x.zs seen):=by
 obtain⟨f,C,D⟩:=uG i;have c:=OJ x.s k z
 have z0:∀q:Nat,1<=q->q<=17->(lJ k).s.get (q:Int)=0:=fun q h1 h2=>Qa k h1 h2
 have a0:(lJ k).s.i7=0/\(lJ k).s.order=0/\(lJ k).s.e9={data:=#[]}:=⟨rfl,rfl,rfl⟩;generalize(lJ k).s=T0 at*;obtain⟨s1,b,r⟩:=wN y l0 T0 [] [] x.s f (a:=1) (by omega) (fun q h1 h2=>z0 q h1 h2) (fun q _ _ h=>by cases h) 10 (by omega);have K:=CK (s:=x.s) (a:=1) (n:=10) (by omega) (by omega) z0
 have a1:(jS T0 x.s 1 10).i7=0/\(jS T0 x.s 1 10).order=0/\(jS T0 x.s 1 10).e9={data:=#[]}:=by rw[CJ,vI,ta];exact a0
 generalize jS T0 x.s 1 10=T1 at*;obtain⟨s2,d,t⟩:=OI y l0 T1 [] s1 x.s C a1.1 (oz (by omega) (by omega) b (by simp) (VR rfl))
 have m:∀q:Nat,11<=q->q<=17->({T1 with i7:=x.s.i7}:gW).get (q:Int)=0:=fun q h1 h2=>by rw[OK];exact K q h1 h2
 have a2:({T1 with i7:=x.s.i7}:gW).order=0/\({T1 with i7:=x.s.i7}:gW).e9={data:=#[]}:=⟨a1.2.1,a1.2.2⟩;generalize({T1 with i7:=x.s.i7}:gW)=T2 at*;obtain⟨E,e,u⟩:=wN y l0 T2 [] s2 x.s f (a:=11) (by omega) m (fun q h1 h2=>rY d (oz (by omega) (by omega) b (by simp) (VS (VS (VS ⟨q,by omega,by omega,h2,rfl⟩)))) (mH (by omega) h2).2.2.2.2.1) 5 (by omega);have L:=CK (s:=x.s) (a:=11) (n:=5) (by omega) (by omega) m
 have a3:(jS T2 x.s 11 5).order=0/\(jS T2 x.s 11 5).e9={data:=#[]}:=by rw[vI,ta];exact a2
 generalize jS T2 x.s 11 5=T3 at*;obtain⟨F,j,v⟩:=Mj y l0 T3 [] E x.s D a3.1 (oz (by omega) (by omega) e (rY d (oz (by omega) (by omega) b (by simp) (VS (VR rfl))) (by decide+kernel)) (VS (VR rfl)))
 have M:∀q:Nat,16<=q->q<=17->({T3 with order:=x.s.order}:gW).get (q:Int)=0:=fun q h1 h2=>by rw[Ml];exact L q h1 h2
 have o:({T3 with order:=x.s.order}:gW).e9={data:=#[]}:=a3.2;generalize({T3 with order:=x.s.order}:gW)=T4 at*;obtain⟨H,B,w⟩:=wN y l0 T4 [] F x.s f (a:=16) (by omega) M (fun q h1 h2=>rY j (oz (by omega) (by omega) e (rY d (oz (by omega) (by omega) b (by simp) (VS (VS (VS ⟨q,by omega,by omega,h2,rfl⟩)))) (mH (by omega) h2).2.2.2.2.1) (VS (VS (VS ⟨q,by omega,by omega,h2,rfl⟩)))) (mH (by omega) h2).2.2.2.2.2) 2 (by omega)
 have p:(jS T4 x.s 16 2).e9={data:=#[]}:=by rw[ta];exact o
 generalize jS T4 x.s 16 2=T5 at*
 obtain⟨l,g⟩:=Mk y l0 T5 [] H x.s p
  (oz (by omega) (by omega) B (rY j (oz (by omega) (by omega) e (rY d (oz (by omega) (by omega) b (by simp) (VS (VS (VR rfl)))) (by decide+kernel)) (VS (VS (VR rfl)))) (by decide+kernel)) (VS (VS (VR rfl))))
 rw[c]at g;refine⟨l,?_⟩;unfold AG;rw[ke,ke,ke,ke,ke,ke,r,aO,t,aO,u,aO,v,aO,w,aO,g,aO,CI y l0 x.s x l i _ (aa _),<- A,bf]
def OM(x:gM)(b:tr x=true)(e:x.zs.length=x.zs.length/3*3)(y:gR)(a:Int)(c:4<=a)(d:a<=7)(sn:List mN):
 ∃seen,mq ⟨y,a,sn⟩ (sZ x)=some ⟨{y with l:=y.l++[x]},7,seen⟩:=by
 have f:=FZ b;obtain⟨seen,h⟩:=I6 x b e y y.l ((x.s.kind-1).toNat+1) (by omega);refine⟨seen,?_⟩;unfold sZ;rw[mq,nt (k:=7) (y:={y with l:=y.l++[lJ ((x.s.kind-1).toNat+1)]}) (by show a≠9;omega) (by decide+kernel) (VS ⟨by omega,c,d⟩) (by unfold jk;simp only;rw[Mo (by omega)];rfl),aO];exact h
def CL:∀(l:List gM),(∀x∈l,tr x=true)->(∀x∈l,x.zs.length=x.zs.length/3*3)-> ∀(y:gR)(a:Int),4<=a->a<=7-> ∀sn:List mN,
 ∃a' d,4<=a'/\a'<=7/\mq ⟨y,a,sn⟩ (l.map sZ).flatten=some ⟨{y with l:=y.l++l},a',d⟩
 |[],_,_,y,a,h4,h7,sn=>⟨a,sn,h4,h7,by rw[bG];rfl⟩
 |x::l,ho,b,y,a,h4,h7,sn=>by
  obtain⟨s1,h1⟩:=OM x (ho x aG) (b x aG) y a h4 h7 sn;obtain⟨a',s2,b1,b2,h2⟩:=CL l (fun z b=>ho z (au _ b)) (fun z c=>b z (au _ c)) {y with l:=y.l++[x]} 7 (by omega) (by omega) s1;refine⟨a',s2,b1,b2,?_⟩;rw[aN,ce,ke,h1,aO,h2];simp
def yA(y:gR)(c0:List jd)(nm:ByteArray)(zs:List Int)(sn:List mN)(a:∀i,i<zs.length/3->(0<=zs.getD (i*3) 0/\zs.getD (i*3) 0<=16)/\(1<=zs.getD (i*3+1) 0/\zs.getD (i*3+1) 0<=17)/\(-1000000000<=zs.getD (i*3+2) 0/\zs.getD (i*3+2) 0<=1000000000)):
 ∀n,n<=zs.length/3->mq ⟨{y with cf:=c0++[⟨nm,[]⟩]},8,sn⟩ ((List.range n).map (uK zs))=some ⟨{y with cf:=c0++[⟨nm,zs.take (n*3)⟩]},8,sn⟩
 |0,_=>by simp[mq]
 |n+1,h=>by
  obtain⟨h1,h2,h3⟩:=a n (by omega);rw[bV,aT,ke,yA y c0 nm zs sn a n (by omega),aO,aN,bI,oy];unfold uK;rw[IY rfl,qf];unfold sP;simp only;rw[up (by omega) (by omega)];simp only;rw[ny 0 (by omega) (by omega)];simp only;rw[ny _ (by omega) (by omega),AN (by omega),show(((zs.getD (n*3+1) 0).toNat:Nat):Int)=zs.getD (n*3+1) 0 by omega];rfl
def ON(c:jd)(f:c.zs.length=c.zs.length/3*3)(e:∀i,i<c.zs.length/3->(0<=c.zs.getD (i*3) 0/\c.zs.getD (i*3) 0<=16)/\(1<=c.zs.getD (i*3+1) 0/\c.zs.getD (i*3+1) 0<=17)/\(-1000000000<=c.zs.getD (i*3+2) 0/\c.zs.getD (i*3+2) 0<=1000000000))
 (y:gR)(a:Int)(b:4<=a)(d:a<=8)(sn:List mN):mq ⟨y,a,sn⟩ (yz c)=some ⟨{y with cf:=y.cf++[c]},8,[]⟩:=by
 unfold yz;rw[mq,nt (k:=8) (y:={y with cf:=y.cf++[⟨c.nm,[]⟩]}) (by show a≠9;omega) (by decide+kernel) (VS ⟨by omega,b,d⟩) (by unfold jk;simp only;rw[qO]),aO];have:=yA y y.cf c.nm c.zs [] e _ (aa _);rw[<- f,bf]at this;exact this
def CM:∀(l:List jd),(∀c∈l,c.zs.length=c.zs.length/3*3)->(∀c∈l,∀i,i<c.zs.length/3->(0<=c.zs.getD (i*3) 0/\c.zs.getD (i*3) 0<=16)/\(1<=c.zs.getD (i*3+1) 0/\c.zs.getD (i*3+1) 0<=17)/\(-1000000000<=c.zs.getD (i*3+2) 0/\c.zs.getD (i*3+2) 0<=1000000000))->
 ∀(y:gR)(a:Int),4<=a->a<=8-> ∀sn:List mN,∃a' b,4<=a'/\a'<=8/\mq ⟨y,a,sn⟩ (l.map yz).flatten=some ⟨{y with cf:=y.cf++l},a',b⟩
 |[],_,_,y,a,h4,h8,sn=>⟨a,sn,h4,h8,by rw[bG];rfl⟩
 |c::l,hz,hr,y,a,h4,h8,sn=>by
  have h1:=ON c (hz c aG) (hr c aG) y a h4 h8 sn;obtain⟨a',s2,b1,b2,h2⟩:=CM l (fun z h=>hz z (au _ h)) (fun z h=>hr z (au _ h)) {y with cf:=y.cf++[c]} 8 (by omega) (by omega) [];refine⟨a',s2,b1,b2,?_⟩;rw[aN,ce,ke,h1,aO,h2];simp
def AP(y:gR)(fs:List Int)(b:y.fs=[])(a:∀i,i<fs.length/2->(-1000000000<=fs.getD (i*2) 0/\fs.getD (i*2) 0<=1000000000)/\(-1000000000<=fs.getD (i*2+1) 0/\fs.getD (i*2+1) 0<=1000000000))(sn:List mN):
 ∀n,n<=fs.length/2-> ∃a' c,4<=a'/\a'<=5/\mq ⟨y,4,sn⟩ ((List.range n).map (AH fs))=some ⟨{y with fs:=fs.take (n*2)},a',c⟩
 |0,_=>⟨4,sn,by omega,by omega,by rw[eB,dU,<- b];rfl⟩
 |n+1,h=>by
  obtain⟨a',s1,b1,b2,h1⟩:=AP y fs b a sn n (by omega);obtain⟨d,e⟩:=a n (by omega);refine⟨5,[],by omega,by omega,?_⟩;rw[bV,aT,ke,h1,aO,aN,bI,oy];unfold AH;rw[nt (k:=5) (y:={y with fs:=fs.take ((n+1)*2)}) (by show a'≠9;omega) (by decide+kernel) (VS ⟨by omega,b1,b2⟩) (by unfold jk;simp only;rw[Gd d e,Gc (by omega)];rfl)];rfl
def CN(y:gR)(ws:List Int)(e:y.ws=[])(d:∀i,i<ws.length/2->(0<=ws.getD (i*2) 0/\ws.getD (i*2) 0<=2500000)/\(1<=ws.getD (i*2+1) 0/\ws.getD (i*2+1) 0<=100))(a:Int)(b:4<=a)(c:a<=6)(sn:List mN):
 ∀n,n<=ws.length/2-> ∃a' f,4<=a'/\a'<=6/\mq ⟨y,a,sn⟩ ((List.range n).map (FV ws))=some ⟨{y with ws:=ws.take (n*2)},a',f⟩
 |0,_=>⟨a,sn,b,c,by rw[eB,dU,<- e];rfl⟩
 |n+1,h=>by
  obtain⟨a',s1,b1,b2,h1⟩:=CN y ws e d a b c sn n (by omega);obtain⟨g,j⟩:=d n (by omega);refine⟨6,[],by omega,by omega,?_⟩;rw[bV,aT,ke,h1,aO,aN,bI,oy];unfold FV;rw[nt (k:=6) (y:={y with ws:=ws.take ((n+1)*2)}) (by show a'≠9;omega) (by decide+kernel) (VS ⟨by omega,b1,b2⟩) (by unfold jk;simp only;rw[Gd (by omega) (by omega),Gc (by omega)];rfl)];rfl
def Ge(n:Int)(d:Nat):iz n d≠lQ:=fun e=>by
 have:=(CF n d).2 105 (by rw[e];decide)
 revert this;decide
def OO(x:gR)(a:0<=x.i9/\x.i9<=1000000000)(b:0<=x.p9/\x.p9<=1000000000)(c:0<=x.stop/\x.stop<=16)(d:0<=x.i4/\x.i4<=16):
 mq Ae (CH x)=some ⟨{mG with nm:=x.nm,i9:=x.i9,p9:=x.p9,stop:=x.stop,i4:=x.i4},4,[]⟩:=by
 unfold CH;rw[mq,nt (k:=0) (y:={mG with nm:=x.nm}) (by decide) (by decide+kernel) (VR (by decide)) (by unfold jk;simp only;rw[qO];rfl),aO]
 rw[mq,nt (k:=1) (y:={mG with nm:=x.nm,i9:=x.i9}) (by simp) (by decide+kernel) (VR (by simp)) (by
  unfold jk;simp only;by_cases h0:x.i9=0
  .rw[aq h0,aq rfl,h0];rfl
  .rw[aj h0,aj (Ge _ _),ny 6 (by omega) (by omega)];rfl),aO]
 rw[mq,nt (k:=2) (y:={mG with nm:=x.nm,i9:=x.i9,p9:=x.p9}) (by simp) (by decide+kernel) (VR (by simp)) (by unfold jk;simp only;rw[ny 6 (by omega) (by omega)];rfl),aO];rw[mq,nt (k:=3) (y:={mG with nm:=x.nm,i9:=x.i9,p9:=x.p9,stop:=x.stop}) (by simp) (by decide+kernel) (VR (by simp)) (by unfold jk;simp only;rw[ny 0 (by omega) (by omega)];rfl),aO];rw[mq,nt (k:=4) (y:={mG with nm:=x.nm,i9:=x.i9,p9:=x.p9,stop:=x.stop,i4:=x.i4}) (by simp) (by decide+kernel) (VR (by simp)) (by unfold jk;simp only;rw[ny 0 (by omega) (by omega)];rfl),aO];rfl
structure S0 (x:gR):Prop where
 fs:x.fs.length=x.fs.length/2*2
 ws:x.ws.length=x.ws.length/2*2
 l:∀y∈x.l,y.zs.length=y.zs.length/3*3
 cf:∀c∈x.cf,c.zs.length=c.zs.length/3*3
def Qb(y:gR)(a:Int)(b:4<=a)(c:a<=8)(sn:List mN):mq ⟨y,a,sn⟩ [[Fp]]=some ⟨y,9,[]⟩:=by
 rw[oy,nt (k:=9) (y:=y) (by show a≠9;omega) (by decide+kernel) (VS ⟨by omega,b,by show a<=9;omega⟩) rfl];rfl
def OP{x:gR}(h:iI x=true)(hw:S0 x):mq Ae (AI x)=some ⟨x,9,[]⟩:=by
 have a:=uH h;obtain⟨a1,s1,b1,b2,b⟩:=AP {mG with nm:=x.nm,i9:=x.i9,p9:=x.p9,stop:=x.stop,i4:=x.i4} x.fs rfl a.fs [] _ (aa _);rw[<- hw.fs,bf]at b;obtain⟨a2,s2,b3,b4,c⟩:=CN {mG with nm:=x.nm,i9:=x.i9,p9:=x.p9,stop:=x.stop,i4:=x.i4,fs:=x.fs} x.ws rfl a.ws a1 b1 (by omega) s1 _ (aa _);rw[<- hw.ws,bf]at c;obtain⟨a3,k,e,n,i⟩:=CL x.l a.l hw.l {mG with nm:=x.nm,i9:=x.i9,p9:=x.p9,stop:=x.stop,i4:=x.i4,fs:=x.fs,ws:=x.ws} a2 b3 (by omega) s2;obtain⟨d,m,f,g,j⟩:=CM x.cf hw.cf a.cf {mG with nm:=x.nm,i9:=x.i9,p9:=x.p9,stop:=x.stop,i4:=x.i4,fs:=x.fs,ws:=x.ws,l:=[]++x.l} a3 e (by omega) k;unfold AI;rw[ke,ke,ke,ke,ke,OO x a.i9 a.p9 a.stop a.i4,aO,b,aO,c,aO,i,aO];rw[show(({mG with nm:=x.nm,i9:=x.i9,p9:=x.p9,stop:=x.stop,i4:=x.i4,fs:=x.fs,ws:=x.ws,l:=mG.l++x.l}):gR)={mG with nm:=x.nm,i9:=x.i9,p9:=x.p9,stop:=x.stop,i4:=x.i4,fs:=x.fs,ws:=x.ws,l:=[]++x.l} from rfl,j,aO,Qb _ d f g m];rfl
def JU(ws:List mN):Nat:=(ws.map fun v=>v.length+1).sum
def kh:∀(ws:List mN),ws≠[]->(iF ws).length=JU ws
 |[],h=>(h rfl).elim
 |[x],_=>by simp[iF,nN,JU]
 |x::y::l,_=>by
  have h:=kh (y::l) (by simp);unfold iF at h⊢;rw[nN];unfold JU at h⊢;rw[aN,cO,<- h];simp;omega
def pL{α:Type}(f:α->List UInt8)(c:Nat):∀(l:List α),(∀a∈l,(f a).length<=c)->((l.map f).flatten).length<=c*l.length
 |[],_=>by simp
 |a::l,h=>by
  have h1:=h a aG;have h2:=pL f c l (fun b d=>h b (au _ d));rw[aN,ce,al,aH,Nat.mul_add];omega
def wO{n:Int}{d:Nat}(h1: -1000000000<=n)(h2:n<=1000000000)(a:d<=9):(iz n d).length<=12:=by
 refine af (ro (k:=10-d) (d:=d) ?_ (by omega)) (by omega);rw[show 10-d+d=10 by omega];omega
def QC(p:Nat):oo p<=9:=by unfold oo;split;omega;split<;>omega
def CO{p:Nat}:(km p).length<=6:=by
 unfold km;by_cases h:p-1<17
 .have:∀k,k<17->(kO.getD k []).length<=6:=by decide
  exact this _ h
 .rw[ah,bz (by show 17<=p-1;omega)]
  simp
def Mq{k:Nat}:(kP.getD k []).length<=8:=by
 by_cases h:k<4
 .have:∀k,k<4->(kP.getD k []).length<=8:=by decide
  exact this _ h
 .rw[ah,bz (by show 4<=k;omega)]
  simp
def I7{s:ByteArray}(h:kI s=true):(VX s).length<=16:=by
 unfold kI at h;simp only[am,aD]at h
 have e:s.size=(VX s).length:=by unfold VX;rw[fe];rfl
 omega
def OQ{s:gW}(r:∀p:Int,-1000000000<=s.get p/\s.get p<=1000000000)(p:Nat):(Ld s p).length<=20:=by
 unfold Ld;split
 .simp
 .rw[kh _ (by simp)]
  have h1:=wO (d:=oo p) (r p).1 (r p).2 (QC p);have h2:=CO (p:=p);simp[JU];omega
def xy{s:gW}(r:∀p:Int,-1000000000<=s.get p/\s.get p<=1000000000)(a n:Nat):(ub s a n).length<=20*n:=by
 have:=pL (fun i=>Ld s (a+i)) 20 (List.range n) (fun i _=>OQ r _);rw[dt]at this;exact this
def Mr{x:gM}(h:tr x=true):(oq x).length<=648:=by
 obtain⟨a,o,p⟩:=uG h
 have m:x.zs.length/3<=8:=by
  have h1:oA x.s x.zs (x.zs.length/3)=true:=h;unfold oA at h1;rw[am]at h1;have b:pC x.s x.zs (x.zs.length/3) 6=true:=an.1 h1.1 6 (by decide);exact bZ b
 have a1:=xy a 1 10;have a2:=xy a 11 5;have a3:=xy a 16 2
 have c:(iF [nq,kP.getD (x.s.kind-1).toNat []]).length<=17:=by
  rw[kh _ (by simp)];have:=Mq (k:=(x.s.kind-1).toNat);simp only[JU,aN,bI,cO,dh];rw[show nq.length=7 from rfl];omega
 have e:(if x.s.i7=0 then[]else iF [lB,iz x.s.i7 6]).length<=18:=by
  split
  .simp
  .rw[kh _ (by simp)]
   have:=wO (n:=x.s.i7) (d:=6) (by omega) (by omega) (by omega);simp only[JU,aN,bI,cO,dh];rw[show lB.length=4 from rfl];omega
 have f:(if x.s.order=0 then[]else iF [kj,iz x.s.order 0]).length<=10:=by
  split
  .simp
  .rw[kh _ (by simp)]
   have:=ro (z:=x.s.order) (d:=0) (k:=1) (by rw[show(10:Nat)^(1+0)=10 from rfl];omega) (by omega);simp only[JU,aN,bI,cO,dh];rw[show kj.length=5 from rfl];omega
 have g:(if VX x.s.e9=[]then[]else iF [lP,VX x.s.e9]).length<=23:=by
  split
  .simp
  .rename_i hg
   rw[kh _ (by simp)];have:=I7 (AJ h hg);simp only[JU,aN,bI,cO,dh];rw[show lP.length=5 from rfl];omega
 have j:(((List.range (x.zs.length/3)).map (V3 x.zs)).flatten).length<=30*8:=by
  refine af (pL (V3 x.zs) 30 _ fun i hi=>?_) (by rw[dt];omega);have l:=wH h (aJ.1 hi);unfold V3;rw[kh _ (by simp)];have b1:=ro (z:=x.zs.getD (i*3) 0) (d:=7) (k:=1) (by rw[show(10:Nat)^(1+7)=100000000 from rfl];omega) (by omega);have b2:=ro (z:=x.zs.getD (i*3+1) 0) (d:=0) (k:=4) (by rw[show(10:Nat)^(4+0)=10000 from rfl];omega) (by omega);have b3:=ro (z:=x.zs.getD (i*3+2) 0) (d:=0) (k:=4) (by rw[show(10:Nat)^(4+0)=10000 from rfl];omega) (by omega);simp only[JU,aN,bI,cO,dh];rw[show lG.length=4 from rfl];omega
 unfold oq;simp only[al];omega
def Ms{c:jd}(b:kI c.nm=true)(f:c.zs.length/3<=12)(e:∀i,i<c.zs.length/3->(0<=c.zs.getD (i*3) 0/\c.zs.getD (i*3) 0<=16)/\(1<=c.zs.getD (i*3+1) 0/\c.zs.getD (i*3+1) 0<=17)/\(-1000000000<=c.zs.getD (i*3+2) 0/\c.zs.getD (i*3+2) 0<=1000000000)):(ot c).length<=408:=by
 have a1:(iF [mc,VX c.nm]).length<=24:=by
  rw[kh _ (by simp)];have:=I7 b;simp only[JU,aN,bI,cO,dh];rw[show mc.length=6 from rfl];omega
 have a2:(((List.range (c.zs.length/3)).map (mK c.zs)).flatten).length<=32*12:=by
  refine af (pL (mK c.zs) 32 _ fun i hi=>?_) (by rw[dt];omega);obtain⟨g,h,a⟩:=e i (aJ.1 hi);unfold mK;rw[kh _ (by simp)];have b1:=ro (z:=c.zs.getD (i*3) 0) (d:=0) (k:=2) (by rw[show(10:Nat)^(2+0)=100 from rfl];omega) (by omega);have b2:=CO (p:=(c.zs.getD (i*3+1) 0).toNat);have b3:=wO (d:=oo (c.zs.getD (i*3+1) 0).toNat) a.1 a.2 (QC _);simp only[JU,aN,bI,cO,dh];rw[show lj.length=6 from rfl];omega
 unfold ot;rw[al];omega
def UN{x:gR}(h:iI x=true):(nO x).length<=13000:=by
 have a:=uH h
 have e:∀k,k<6->jO x k=true:=fun k o=>an.1 h k (aJ.2 o)
 have h2:jx x.i9 x.fs (x.fs.length/2)=true:=e 2 (by omega);have h3:VY x.i4 x.ws (x.ws.length/2)=true:=e 3 (by omega);have f:iW x.stop x.l=true:=e 4 (by omega);have h5:jo x.l x.cf=true:=e 5 (by omega);unfold jx at h2;rw[am]at h2;have u:=rV h2.2;unfold VY at h3;simp only[am]at h3;have v:=rV h3.1.2;unfold iW at f;simp only[am]at f;have w:=rV f.1.1.1.1;unfold jo at h5;simp only[am,aD]at h5;have A:=h5.1.2
 have a1:(Fq x).length<=100:=by
  have b0:=I7 (AL h);have b1:=wO (n:=x.i9) (d:=6) (by have:=a.i9;omega) (by have:=a.i9;omega) (by omega);have b2:=wO (n:=x.p9) (d:=6) (by have:=a.p9;omega) (by have:=a.p9;omega) (by omega);have b3:=ro (z:=x.stop) (d:=0) (k:=2) (by have:=a.stop;rw[show(10:Nat)^(2+0)=100 from rfl];omega) (by omega);have b4:=ro (z:=x.i4) (d:=0) (k:=2) (by have:=a.i4;rw[show(10:Nat)^(2+0)=100 from rfl];omega) (by omega)
  have t:(if x.i9=0 then lQ else iz x.i9 6).length<=12:=by
   split
   .decide
   .exact b1
  unfold Fq;simp only[al];rw[kh _ (by simp),kh _ (by simp),kh _ (by simp),kh _ (by simp),kh _ (by simp)];simp only[JU,aN,bI,cO,dh];rw[show xZ.length=4 from rfl,show sO.length=6 from rfl,show vA.length=5 from rfl,show Aa.length=4 from rfl,show qJ.length=7 from rfl];omega
 have a2:(((List.range (x.fs.length/2)).map (nE x.fs)).flatten).length<=32*5:=by
  refine af (pL (nE x.fs) 32 _ fun i hi=>?_) (by rw[dt];omega);obtain⟨j,m⟩:=a.fs i (aJ.1 hi);unfold nE;rw[kh _ (by simp)];have b1:=wO (d:=6) j.1 j.2 (by omega);have b2:=wO (d:=6) m.1 m.2 (by omega);simp only[JU,aN,bI,cO,dh];rw[show vB.length=5 from rfl];omega
 have a3:(((List.range (x.ws.length/2)).map (qK x.ws)).flatten).length<=32*5:=by
  refine af (pL (qK x.ws) 32 _ fun i hi=>?_) (by rw[dt];omega);obtain⟨j,m⟩:=a.ws i (aJ.1 hi);unfold qK;rw[kh _ (by simp)];have b1:=wO (n:=x.ws.getD (i*2) 0) (d:=3) (by omega) (by omega) (by omega);have b2:=wO (n:=x.ws.getD (i*2+1) 0) (d:=0) (by omega) (by omega) (by omega);simp only[JU,aN,bI,cO,dh];rw[show Ab.length=4 from rfl];omega
 have q:((x.l.map oq).flatten).length<=648*16:=af (pL oq 648 _ fun y p=>Mr (a.l y p)) (by omega)
 have r:((x.cf.map ot).flatten).length<=408*4:=by
  refine af (pL ot 408 _ fun c g=>Ms (AK h c g) ?_ (a.cf c g)) (by omega);have b:=an.1 h5.1.1 c g;unfold lr at b;split at b
  .cases b
  .exact bZ b
 have s:(iF [Fp]).length<=4:=by decide
 unfold nO;simp only[al];omega
def Gf{x:gR}(h:iI x=true):(nO x).length<=20000:=af (UN h) (by omega)
def Uj:List (List UInt8)->List UInt8
 |[]=>[]
 |[x]=>x
 |x::y::l=>x++10::Uj (y::l)
def UF:∀L:List (List UInt8),L≠[]->(∀x∈L,∀b∈x,b≠10)->io [] (Uj L)=L
 |[],h,_=>(h rfl).elim
 |[x],_,h=>by rw[Uj,AE x [] (h x aG)];rfl
 |x::y::l,_,h=>by
  rw[Uj,vF,AE x [] (h x aG),UF (y::l) (by simp) (fun z a=>h z (au _ a))];rfl
def UX:∀L:List (List mN),L≠[]->wL L=Uj (L.map nN)++[10]
 |[],h=>(h rfl).elim
 |[x],_=>by rw[OA];simp[Uj,wL]
 |x::y::l,_=>by
  rw[OA]
  show nN x++10::wL (y::l)=(nN x++10::Uj ((y::l).map nN))++[10]
  rw[UX (y::l) (by simp)];simp
section
def VP(l:List UInt8):trimSuffix (l++[10]) [10]=l:=by
 unfold trimSuffix hasSuffix;rw[aq (by simp)];simp
end
def Vi(l:List UInt8)(w:World)(a:l.length<=1000000):Calls prog 9 #[.string (bs (l++[10])),.string {data:=#[10]}] w (iZ w (.string (bs l))):=by
 refine(Tryz.strings_TrimSuffix (bs (l++[10])) (bs [10]) w (by rw[lE,al];simp;omega)).mono ?_;rintro e w' ⟨rfl,rfl⟩;refine⟨?_,TH _ _⟩
 show Ending.returned (.string (bs (Lib.trimSuffix (l++[10]) [10])))=_
 rw[VP]
def Un(x:gR):List (List UInt8):=(AI x).map nN
def U5(x:gR):Un x≠[]:=by unfold Un AI CH;simp
def UM(x:gR):nO x=Uj (Un x)++[10]:=by
 rw[OF,UX _ (by unfold AI CH;simp)];rfl
def UL{x:gR}(h:iI x=true):∀c∈Un x,∀b∈c,b≠10:=fun c a=>by
 obtain⟨w,hw,rfl⟩:=cP.1 a;exact Me (IX h w hw).2
def U4{x:gR}(h:iI x=true):io [] (Uj (Un x))=Un x:=UF _ (U5 x) (UL h)
def US{x:gR}(h:iI x=true):(Uj (Un x)).length<=13000:=by
 have:=UN h;rw[UM,al]at this;omega
inductive Yb where
 |film (ns:List Int)
 |e9 (v:mN)
 |num (f:mN) (n:Int)
def Wn:List mN->Option Yb
 |[]=>none
 |f::ws=>if f=lG then(kF ws [7,0,0]).map .film else match ws with
  |[v]=>if f=lP then some (.e9 v)else match Dv f with
   |none=>none
   |some d=>(VZ v d).map (.num f)
  |_=>none
def WX:Yb->gM->gM
 | .film a,y=>{y with zs:=y.zs++a}
 | .e9 v,y=>{y with s:={y.s with e9:=bs v}}
 | .num f n,y=>{y with s:=Ac y.s f n}
def WB(y:gM)(w:List mN):Ad y w=(Wn w).map fun e=>WX e y:=by
 unfold Ad Wn
 match w with
 |[]=>rfl
 |f::ws=>
  simp only;split
  .cases kF ws [7,0,0] <;>rfl
  .match ws with
   |[]=>rfl
   |[v]=>
    simp only;split
    .rfl
    .cases Dv f with
     |none=>rfl
     |some d=>simp only;cases VZ v d<;>rfl
   |_::_::_=>rfl
def Wh(ws:List mN):Wn (lj::ws)=none:=by
 unfold Wn;simp only;rw[aj (by decide+kernel)]
 match ws with
 |[]=>rfl
 |[v]=>
  simp only;rw[aj (by decide+kernel),show Dv lj=none by decide+kernel]
 |_::_::_=>rfl
def Wg(s:gW)(f:mN):Prop:=match rD f with
 |some p=>s.get (p:Int)=0
 |none=>(f=lB->s.i7=0)/\(f=kj->s.order=0)/\(f=lP->VX s.e9=[])
def Wi{f:mN}{p:Nat}(h:rD f=some p):1<=p/\p<=17/\km p=f:=by
 unfold rD at h
 cases hi:kO.findIdx? (· ==f)with
 |none=>rw[hi]at h;cases h
 |some i=>
  rw[hi]at h;have c:i+1=p:=aE h;rw[fm]at hi;obtain⟨a,b,_⟩:=hi;have d:i<17:=a;refine⟨by omega,by omega,?_⟩;unfold km;rw[<- c,cY,ah,ae a];simpa using b
def XL(k:Nat)(f:mN):Wg (lJ k).s f:=by
 unfold Wg
 cases h:rD f with
 |none=>exact⟨fun _=>rfl,fun _=>rfl,fun _=>rfl⟩
 |some p=>
  obtain⟨h1,h2,_⟩:=Wi h;exact Qa k h1 h2
def NZ(w:List mN):Prop:=∀e,Wn w=some e->match e with
 | .film a=>a≠[]
 | .e9 v=>v≠[]
 | .num _ n=>n≠0
def Ws{w:List mN}{f:mN}{n:Int}(h:Wn w=some (.num f n)):∃v,w=[f,v]/\f≠lG/\f≠lP/\ ∃d,Dv f=some d/\VZ v d=some n:=by
 unfold Wn at h
 match w,h with
 |g::ws,h=>
  simp only at h;split at h
  .cases hv:kF ws [7,0,0] <;>rw[hv]at h<;>cases h
  .rename_i h1
   match ws,h with
   |[v],h=>
    simp only at h;split at h
    .cases h
    .rename_i h2
     cases hd:Dv g with
     |none=>rw[hd]at h;cases h
     |some d=>
      rw[hd]at h;simp only at h
      cases hv:VZ v d with
      |none=>rw[hv]at h;cases h
      |some m=>rw[hv]at h;cases h;exact⟨v,rfl,h1,h2,d,hd,hv⟩
def Wq{w:List mN}{v:mN}(h:Wn w=some (.e9 v)):w=[lP,v]:=by
 unfold Wn at h
 match w,h with
 |g::ws,h=>
  simp only at h;split at h
  .cases hv:kF ws [7,0,0] <;>rw[hv]at h<;>cases h
  .match ws,h with
   |[u],h=>
    simp only at h;split at h
    .rename_i h2;cases h;rw[h2]
    .cases hd:Dv g with
     |none=>rw[hd]at h;cases h
     |some d=>
      rw[hd]at h;simp only at h;cases hv:VZ u d<;>rw[hv]at h<;>cases h
def WT{w:List mN}{a:List Int}(h:Wn w=some (.film a)):∃ws,w=lG::ws:=by
 unfold Wn at h
 match w,h with
 |g::ws,h=>
  simp only at h;split at h
  .rename_i h2;exact⟨ws,by rw[h2]⟩
  .match ws,h with
   |[u],h=>
    simp only at h;split at h
    .cases h
    .cases hd:Dv g with
     |none=>rw[hd]at h;cases h
     |some d=>
      rw[hd]at h;simp only at h;cases hv:VZ u d<;>rw[hv]at h<;>cases h
def Wa{f:mN}{d:Nat}(h:Dv f=some d)(h2:rD f=none):f=lB\/f=kj:=by
 unfold Dv at h;rw[h2]at h;simp only at h;split at h
 .exact VR (by assumption)
 .split at h
  .exact VS (by assumption)
  .cases h
def Yc{f:mN}{ws:List mN}{y l:gM}(q:NZ (f::ws))(b:Wg y.s f)(h:Ad y (f::ws)=some l):l≠y:=by
 rw[WB]at h
 cases c:Wn (f::ws)with
 |none=>rw[c]at h;cases h
 |some e=>
  rw[c]at h;have h:=aE h;have i:=q e c;intro m;rw[m]at h
  match e,c,i,h with
  | .film w,c,i,h=>
    have:=ai (fun z:gM=>z.zs.length) h;simp[WX]at this;exact i this
  | .e9 v,c,i,h=>
    have hf:=Wq c
    have k:f=lP:=by injection hf
    have j:=ai (fun z:gM=>VX z.s.e9) h;have j:v=VX y.s.e9:=j;unfold Wg at b;rw[k,show rD lP=none by decide+kernel]at b;exact i (j.trans (b.2.2 rfl))
  | .num g n,c,i,h=>
    obtain⟨v,hw,t,u,d,o,r⟩:=Ws c
    have j:f=g:=by injection hw
    subst j;have a:Ac y.s f n=y.s:=ai (fun z:gM=>z.s) h;unfold Wg at b
    cases hs:rD f with
    |some p=>
     obtain⟨p1,x,_⟩:=Wi hs;rw[hs]at b;unfold Ac at a;rw[hs]at a;simp only at a b;have:=P6 (s:=y.s) (p:=(p:Int)) (v:=n) (by omega) (by omega);rw[a]at this;exact i (this.symm.trans b)
    |none=>
     rw[hs]at b;unfold Ac at a;rw[hs]at a;simp only at a b
     obtain rfl|rfl:=Wa o hs
     .rw[aq rfl]at a
      have:=ai gW.i7 a;exact i (this.trans (b.1 rfl))
     .rw[aj (by decide+kernel)]at a
      have:=ai gW.order a;exact i (this.trans (b.2.1 rfl))
def Xo(r:jL):Prop:=r.at_=7-> ∃l0 y,r.x.l=l0++[y]/\ ∀f,f ∉ r.seen->Wg y.s f
def XM{s:gW}{f g:mN}{n:Int}{d:Nat}(b:Dv f=some d)(a:g≠f)(h:Wg s g):Wg (Ac s f n) g:=by
 unfold Wg at h⊢
 cases hg:rD g with
 |some q=>
  rw[hg]at h;simp only at h⊢;obtain⟨k,l,i⟩:=Wi hg;unfold Ac
  cases hf:rD f with
  |some p=>
   obtain⟨p1,j,c⟩:=Wi hf;simp only;rw[IZ (by omega) (by omega) (fun e=>a (by rw[<- i,<- c];congr 1;omega))];exact h
  |none=>
   simp only;split
   .exact h
   .exact h
 |none=>
  rw[hg]at h;simp only at h⊢;unfold Ac
  cases hf:rD f with
  |some p=>
   simp only;rw[OL,Mm,Mn];exact h
  |none=>
   simp only
   obtain rfl|rfl:=Wa b hf
   .rw[aq rfl]
    exact⟨fun e=>(a e).elim,h.2.1,h.2.2⟩
   .rw[aj (by decide+kernel)]
    exact⟨h.1,fun e=>(a e).elim,h.2.2⟩
def Ya{w:List mN}{e:Yb}{y:gM}{g:mN}(a:Wn w=some e)(b:∀f ws,w=f::ws->f=lG\/g≠f)(h:Wg y.s g):Wg (WX e y).s g:=by
 match e,a with
 | .film l,_=>exact h
 | .e9 v,a=>
   have hw:=Wq a
   obtain h1|h1:=b _ _ hw
   .exact absurd h1 (by decide+kernel)
   .unfold Wg at h⊢
    cases hg:rD g with
    |some q=>rw[hg]at h;exact h
    |none=>rw[hg]at h;exact⟨h.1,h.2.1,fun e=>(h1 e).elim⟩
 | .num f n,a=>
   obtain⟨v,hw,i,k,d,c,j⟩:=Ws a
   obtain h1|h1:=b _ _ hw
   .exact absurd h1 i
   .exact XM c h1 h
def V0{r q:jL}{f:mN}{ws:List mN}(h:kp r (f::ws)=some q):
 r.at_≠9/\((∃k y,kV.findIdx? (· ==f)=some k/\((k:Int)=r.at_+1\/(5<=k/\4<=r.at_/\r.at_<=(k:Int)))/\jk r.x k ws=some y/\q=⟨y,(k:Int),[]⟩)\/
  (kV.findIdx? (· ==f)=none/\r.at_=7/\lX r f ws=some q)\/
  (kV.findIdx? (· ==f)=none/\r.at_=8/\f=lj/\((ou r.x.cf fun c=>sP c (f::ws)).map fun cf=>(⟨{r.x with cf:=cf},8,r.seen⟩:jL))=some q)):=by
 unfold kp at h;split at h
 .cases h
 .rename_i h9
  refine⟨h9,?_⟩;simp only at h
  cases hf:kV.findIdx? (· ==f)with
  |some k=>
   rw[hf]at h;simp only at h;split at h
   .rename_i hk
    cases hy:jk r.x k ws with
    |none=>rw[hy]at h;cases h
    |some y=>rw[hy]at h;exact VR ⟨k,y,rfl,hk,hy,(aE h).symm⟩
   .cases h
  |none=>
   rw[hf]at h;simp only at h;split at h
   .exact VS (VR ⟨rfl,by assumption,h⟩)
   .split at h
    .rename_i h8
     exact VS (VS ⟨rfl,h8.1,h8.2,h⟩)
    .cases h
def V2{r q:jL}{f:mN}{ws:List mN}(h:lX r f ws=some q):
 (f=lG\/f ∉ r.seen)/\ ∃l0 y e,r.x.l=l0++[y]/\Wn (f::ws)=some e/\q=⟨{r.x with l:=l0++[WX e y]},7,if f=lG then r.seen else r.seen++[f]⟩:=by
 unfold lX at h;split at h
 .cases h
 .rename_i hc
  refine⟨by by_cases e:f=lG;exact VR e;exact VS (fun a=>hc ⟨e,a⟩),?_⟩
  obtain hl|⟨l0,y,hl⟩:=List.eq_nil_or_concat r.x.l
  .rw[hl]at h;cases h
  .rw[List.concat_eq_append]at hl
   rw[hl,qf,WB]at h
   cases he:Wn (f::ws)with
   |none=>rw[he]at h;cases h
   |some e=>
    rw[he]at h;exact⟨l0,y,e,hl,rfl,(aE h).symm⟩
def Wl{x y:gR}{k:Nat}{ws:List mN}(h:jk x k ws=some y):(k=7-> ∃i,y.l=x.l++[lJ (i+1)]/\y.cf=x.cf)/\(k=8-> ∃c:jd,y.cf=x.cf++[c]/\y.l=x.l/\c.zs=[])/\(k≠7->y.l=x.l)/\(k≠8->y.cf=x.cf):=by
 unfold jk at h;split at h
 all_goals first
  |(cases h;done)
  |(cases h;exact⟨by omega,by omega,fun _=>rfl,fun _=>rfl⟩)
  |(split at h
    .cases h;exact⟨by omega,by omega,fun _=>rfl,fun _=>rfl⟩
    .obtain⟨n,a,rfl⟩:=gj.1 h;exact⟨by omega,by omega,fun _=>rfl,fun _=>rfl⟩)
  |(obtain⟨n,a,rfl⟩:=gj.1 h;exact⟨by omega,by omega,fun _=>rfl,fun _=>rfl⟩)
  |(obtain⟨n,a,rfl⟩:=gj.1 h;exact⟨fun _=>⟨n,rfl,rfl⟩,by omega,fun e=>absurd rfl e,fun _=>rfl⟩)
  |(cases h;exact⟨by omega,fun _=>⟨_,rfl,rfl,rfl⟩,fun _=>rfl,fun e=>absurd rfl e⟩)
def XE{r q:jL}{w:List mN}(hi:Xo r)(h:kp r w=some q):Xo q:=by
 match w,h with
 |[],h=>
  unfold kp at h;split at h
  .cases h
  .cases h;exact hi
 |f::ws,h=>
  obtain⟨z,⟨k,y,A,_,d,rfl⟩|⟨_,a,p⟩|⟨_,v,_,n⟩⟩:=V0 h
  .intro a
   have a:k=7:=by have:(k:Int)=7:=a;omega
   obtain⟨i,c,_⟩:=(Wl d).1 a;exact⟨r.x.l,lJ (i+1),c,fun f _=>XL _ _⟩
  .obtain⟨B,l0,y,e,c,o,rfl⟩:=V2 p
   obtain⟨l1,y1,j,s⟩:=hi a
   have d:y1=y:=by
    have:=j.symm.trans c;have:=ai List.getLast? this;simpa using this
   subst d;intro _;refine⟨l0,WX e y1,rfl,fun g b=>?_⟩;refine Ya o (fun u t m=>?_) (s g ?_)
   .injection m with e1 e2
    subst e1;by_cases hf:f=lG
    .exact VR hf
    .simp only[aj hf,bj,aK,not_or]at b
     exact VS b.2
   .by_cases hf:f=lG
    .simp only[aq hf]at b;exact b
    .simp only[aj hf,bj,aK,not_or]at b;exact b.1
  .obtain⟨cf,_,rfl⟩:=gj.1 n
   intro a;exact absurd (show(8:Int)=7 from a) (by decide)
def Xn:∀(L:List (List mN))(r q:jL),Xo r->mq r L=some q->Xo q
 |[],r,q,hi,h=>by cases h;exact hi
 |w::L,r,q,hi,h=>by
  rw[mq]at h
  cases hl:kp r w with
  |none=>rw[hl]at h;cases h
  |some a=>rw[hl]at h;exact Xn L a q (XE hi hl) h
structure WC (x y:gR):Prop where
 ll:x.l.length<=y.l.length
 l:∀i,i+1<x.l.length->y.l[i]? =x.l[i]?
 cl:x.cf.length<=y.cf.length
 c:∀i,i+1<x.cf.length->y.cf[i]? =x.cf[i]?
def WC.refl(x:gR):WC x x:=⟨aa _,fun _ _=>rfl,aa _,fun _ _=>rfl⟩
def WC.trans{x y z:gR}(h:WC x y)(h2:WC y z):WC x z:=
 ⟨af h.ll h2.ll,fun i hi=>(h2.l i (ab hi h.ll)).trans (h.l i hi),af h.cl h2.cl,fun i hi=>(h2.c i (ab hi h.cl)).trans (h.c i hi)⟩
def Wp{α:Type}{l l':List α}{f:α->Option α}(h:ou l f=some l'):∃l0 y z,l=l0++[y]/\f y=some z/\l'=l0++[z]:=by
 obtain hl|⟨l0,y,hl⟩:=List.eq_nil_or_concat l
 .rw[hl]at h;cases h
 .rw[List.concat_eq_append]at hl
  rw[hl,qf]at h;obtain⟨z,a,rfl⟩:=gj.1 h;exact⟨l0,y,z,hl,a,rfl⟩
def WW{α:Type}{l0:List α}{y z:α}{i:Nat}(hi:i+1<(l0++[y]).length):(l0++[z])[i]? =(l0++[y])[i]? :=by
 have:i<l0.length:=by simp at hi;omega
 rw[aF this,aF this]
def WV{α:Type}{l m:List α}{i:Nat}(hi:i+1<l.length):(l++m)[i]? =l[i]? :=aF (by omega)
def Xr{r q:jL}{w:List mN}(h:kp r w=some q):WC r.x q.x:=by
 match w,h with
 |[],h=>
  unfold kp at h;split at h
  .cases h
  .cases h;exact WC.refl _
 |f::ws,h=>
  obtain⟨A,⟨k,y,C,_,v,rfl⟩|⟨_,m,u⟩|⟨_,n,_,t⟩⟩:=V0 h
  .obtain⟨a,b,c,d⟩:=Wl v
   by_cases m:k=7
   .obtain⟨i,g,j⟩:=a m
    refine⟨by show _<=y.l.length;rw[g];simp,fun i hi=>by show y.l[i]? =_;rw[g];exact WV hi,by show _<=y.cf.length;rw[j];exact aa _,fun i hi=>by show y.cf[i]? =_;rw[j]⟩
   .by_cases n:k=8
    .obtain⟨cc,g,j,_⟩:=b n
     refine⟨by show _<=y.l.length;rw[j];exact aa _,fun i hi=>by show y.l[i]? =_;rw[j],by show _<=y.cf.length;rw[g];simp,fun i hi=>by show y.cf[i]? =_;rw[g];exact WV hi⟩
    .have g:=c m
     have j:=d n;refine⟨by show _<=y.l.length;rw[g];exact aa _,fun i hi=>by show y.l[i]? =_;rw[g],by show _<=y.cf.length;rw[j];exact aa _,fun i hi=>by show y.cf[i]? =_;rw[j]⟩
  .obtain⟨_,l0,y,e,s,B,rfl⟩:=V2 u
   refine⟨by rw[s];simp,fun i hi=>?_,aa _,fun _ _=>rfl⟩;rw[s]at hi⊢;exact WW hi
  .obtain⟨cf,p,rfl⟩:=gj.1 t
   obtain⟨l0,y,z,g,_,o⟩:=Wp p;refine⟨aa _,fun _ _=>rfl,by show _<=cf.length;rw[g,o];simp,fun i hi=>?_⟩
   show cf[i]? =_
   rw[g]at hi⊢;rw[o];exact WW hi
def WR:∀(L:List (List mN))(r q:jL),mq r L=some q->WC r.x q.x
 |[],r,q,h=>by cases h;exact WC.refl _
 |w::L,r,q,h=>by
  rw[mq]at h
  cases hl:kp r w with
  |none=>rw[hl]at h;cases h
  |some a=>rw[hl]at h;exact(Xr hl).trans (WR L a q h)
def XA(s:gW):Wg s lG:=by
 unfold Wg;rw[show rD lG=none by decide+kernel];exact⟨fun e=>absurd e (by decide+kernel),fun e=>absurd e (by decide+kernel),fun e=>absurd e (by decide+kernel)⟩
def XD{a b:mN}{k:Nat}(h1:kV.findIdx? (· ==a)=some k)(h2:kV.findIdx? (· ==b)=some k):a=b:=by
 rw[fm]at h1 h2;obtain⟨l1,c,_⟩:=h1;obtain⟨e,d,_⟩:=h2
 have c:kV[k]=a:=by simpa using c
 have d:kV[k]=b:=by simpa using d
 exact c.symm.trans d
def Xa{a:mN}(h:kV.findIdx? (· ==a)=none):a ∉ kV:=fun b=>by
 rw[List.findIdx?_eq_none_iff]at h;have:=h a b;simp at this
def WJ{c c':jd}{w:List mN}(h:sP c w=some c'):c'≠c:=by
 unfold sP at h;split at h
 .split at h
  .cases h
  .split at h
   .cases h
   .obtain⟨n,_,rfl⟩:=gj.1 h
    intro e;have:=ai (fun z:jd=>z.zs.length) e;simp at this
 .cases h
def XN{α:Type}(l0:List α)(y:α):(l0++[y])[l0.length]? =some y:=by rw[aY (aa _),eC];rfl
def WH{α:Type}(l0:List α)(y z:α):((l0++[y])++[z])[l0.length]? =some y:=by rw[aF (by simp),XN]
def Wt{α:Type}{l0 l1:List α}{y z:α}(h:l0++[y]=l1++[z]):l0=l1/\y=z:=by
 have:=List.append_inj' h rfl;exact⟨this.1,by simpa using this.2⟩
def WO{r:jL}{f:mN}{ws:List mN}{l0:List gM}{y:gM}{e:Yb}(hi:Xo r)(c:r.at_=7)(a:f=lG\/f ∉ r.seen)(g:r.x.l=l0++[y])(d:Wn (f::ws)=some e)(h:NZ (f::ws)):WX e y≠y:=by
 obtain⟨l1,y1,b,i⟩:=hi c;obtain⟨_,rfl⟩:=Wt (g.symm.trans b);refine Yc h ?_ (by rw[WB,d];rfl)
 obtain rfl|a:=a
 .exact XA _
 .exact i f a
def X8{Q n:List (List mN)}{a b:mN}{wa wb:List mN}{z q:jL}(a4:a≠b)(nA:NZ (a::wa))(nB:NZ (b::wb))(D:a∈kV\/b∈kV\/a=lj\/b=lj)
 (h:mq Ae (Q++(a::wa)::(b::wb)::n)=some z)(h2:mq Ae (Q++(b::wb)::(a::wa)::n)=some q):q.x≠z.x:=by
 rw[ke]at h h2
 cases hp:mq Ae Q with
 |none=>rw[hp]at h;cases h
 |some r=>
  rw[hp,aO]at h h2;have hi:Xo r:=Xn Q Ae r (fun h7=>absurd (show(-1:Int)=7 from h7) (by decide)) hp;rw[mq]at h h2
  cases hA:kp r (a::wa)with
  |none=>rw[hA]at h;cases h
  |some q1=>
  rw[hA,aO,mq]at h
  cases hB:kp q1 (b::wb)with
  |none=>rw[hB]at h;cases h
  |some q2=>
  rw[hB,aO]at h
  cases gB:kp r (b::wb)with
  |none=>rw[gB]at h2;cases h2
  |some p1=>
  rw[gB,aO,mq]at h2
  cases gA:kp p1 (a::wa)with
  |none=>rw[gA]at h2;cases h2
  |some p2=>
  rw[gA,aO]at h2;have kz:=WR n q2 z h;have kq:=WR n p2 q h2;intro e
  have a6:∀(l0:List gM)(y s u v:gM),q2.x.l=(l0++[y])++[u]->p2.x.l=(l0++[s])++[v]->y=s:=by
   intro l0 y s u v A R;have h1:=kz.l l0.length (by rw[A];simp);have h3:=kq.l l0.length (by rw[R];simp);rw[A,WH]at h1;rw[R,WH,e,h1]at h3;exact aE h3
  have a5:∀(l0:List jd)(y s u v:jd),q2.x.cf=(l0++[y])++[u]->p2.x.cf=(l0++[s])++[v]->y=s:=by
   intro l0 y s u v A R;have h1:=kz.c l0.length (by rw[A];simp);have h3:=kq.c l0.length (by rw[R];simp);rw[A,WH]at h1;rw[R,WH,e,h1]at h3;exact aE h3
  obtain⟨a9,⟨m,ya,B,ca,ha,rfl⟩|⟨B,a7,pa⟩|⟨B,a8,rfl,b2⟩⟩:=V0 hA
  .
   obtain⟨_,⟨a0,b0,g,M,P,rfl⟩|⟨g,_,_⟩|⟨g,_,_,_⟩⟩:=V0 gA
   .obtain rfl:m=a0:=aE (B.symm.trans g)
    obtain⟨_,⟨j,yb,f,cb,hb,rfl⟩|⟨f,b7,pb⟩|⟨f,b8,rfl,b3⟩⟩:=V0 hB
    .obtain⟨_,⟨p,w,d,N,t,rfl⟩|⟨d,_,_⟩|⟨d,_,_,_⟩⟩:=V0 gB
     .obtain rfl:j=p:=aE (f.symm.trans d)
      have c0:m≠j:=fun e=>a4 (XD B (e▸f))
      have cb:(j:Int)=(m:Int)+1\/(5<=j/\4<=(m:Int)/\(m:Int)<=(j:Int)):=cb;have M:(m:Int)=(j:Int)+1\/(5<=m/\4<=(j:Int)/\(j:Int)<=(m:Int)):=M;omega
     .rw[f]at d;cases d
     .rw[f]at d;cases d
    .have X:m=7:=by have:(m:Int)=7:=b7;omega
     obtain⟨_,lb,yb,eb,K,H,rfl⟩:=V2 pb;obtain⟨i,il,_⟩:=(Wl ha).1 X;obtain⟨_,⟨p,w,d,N,t,rfl⟩|⟨d,r7,pr⟩|⟨d,_,e8,_⟩⟩:=V0 gB
     .rw[f]at d;cases d
     .obtain⟨sn,l0,y,A,k,o,rfl⟩:=V2 pr
      obtain⟨i',W,_⟩:=(Wl P).1 X;rw[show ya.l=r.x.l++[lJ (i+1)]from il,k]at K;obtain⟨rfl,rfl⟩:=Wt K;exact WO hi r7 sn k o nB (a6 l0 y (WX A y) _ _ rfl W).symm
     .rw[e8,Wh]at H;cases H
    .have k8:m=8:=by have:(m:Int)=8:=b8;omega
     obtain⟨cc,T,_⟩:=(Wl ha).2.1 k8;obtain⟨b6,a1,rfl⟩:=gj.1 b3;obtain⟨lb,yb,zb,K,_,rfl⟩:=Wp a1;obtain⟨_,⟨p,w,d,N,t,rfl⟩|⟨d,r7,pr⟩|⟨d,r8,_,b5⟩⟩:=V0 gB
     .rw[f]at d;cases d
     .obtain⟨_,_,_,A,_,o,_⟩:=V2 pr
      rw[Wh]at o;cases o
     .obtain⟨b1,C,rfl⟩:=gj.1 b5
      obtain⟨l0,y,s,k,S,rfl⟩:=Wp C;obtain⟨a3,E,_⟩:=(Wl P).2.1 k8;rw[show ya.cf=r.x.cf++[cc]from T,k]at K;obtain⟨rfl,rfl⟩:=Wt K;exact WJ S (a5 l0 y s _ _ rfl E).symm
   .rw[B]at g;cases g
   .rw[B]at g;cases g
  .
   obtain⟨sa,l0,y,ea,k,F,rfl⟩:=V2 pa;obtain⟨_,⟨j,yb,f,cb,hb,rfl⟩|⟨f,b7,pb⟩|⟨f,b8,_,_⟩⟩:=V0 hB
   .obtain⟨_,⟨p,w,d,N,t,rfl⟩|⟨d,_,_⟩|⟨d,_,_,_⟩⟩:=V0 gB
    .obtain rfl:j=p:=aE (f.symm.trans d)
     obtain⟨_,⟨a0,b0,g,M,P,rfl⟩|⟨_,p7,pp⟩|⟨_,_,e8,_⟩⟩:=V0 gA
     .rw[B]at g;cases g
     .have X:j=7:=by have:(j:Int)=7:=p7;omega
      obtain⟨i,il,_⟩:=(Wl hb).1 X;obtain⟨i',W,_⟩:=(Wl t).1 X;obtain⟨_,lp,yp,ep,L,_,rfl⟩:=V2 pp;rw[show w.l=r.x.l++[lJ (i'+1)]from W,k]at L;obtain⟨rfl,rfl⟩:=Wt L;exact WO hi a7 sa k F nA (a6 l0 (WX ea y) y _ _ il rfl)
     .rw[e8,Wh]at F;cases F
    .rw[f]at d;cases d
    .rw[f]at d;cases d
   .obtain⟨_,_,_,eb,_,H,_⟩:=V2 pb
    obtain D|D|D|D:=D
    .exact Xa B D
    .exact Xa f D
    .rw[D,Wh]at F;cases F
    .rw[D,Wh]at H;cases H
   .exact absurd (show(7:Int)=8 from b8) (by decide)
  .
   obtain⟨b1,C,rfl⟩:=gj.1 b2;obtain⟨l0,y,s,k,S,rfl⟩:=Wp C;obtain⟨_,⟨j,yb,f,cb,hb,rfl⟩|⟨f,b7,_⟩|⟨f,b8,eb,_⟩⟩:=V0 hB
   .obtain⟨_,⟨p,w,d,N,t,rfl⟩|⟨d,_,_⟩|⟨d,_,_,_⟩⟩:=V0 gB
    .obtain rfl:j=p:=aE (f.symm.trans d)
     obtain⟨_,⟨a0,b0,g,M,P,rfl⟩|⟨_,p7,pp⟩|⟨_,p8,_,b4⟩⟩:=V0 gA
     .rw[B]at g;cases g
     .obtain⟨_,_,_,A,_,o,_⟩:=V2 pp
      rw[Wh]at o;cases o
     .have k8:j=8:=by have:(j:Int)=8:=p8;omega
      obtain⟨cc,T,_⟩:=(Wl hb).2.1 k8;obtain⟨a3,E,_⟩:=(Wl t).2.1 k8;obtain⟨b9,a2,rfl⟩:=gj.1 b4;obtain⟨lp,yp,zp,L,_,rfl⟩:=Wp a2;rw[show w.cf=r.x.cf++[a3]from E,k]at L;obtain⟨rfl,rfl⟩:=Wt L;exact WJ S (a5 l0 s y _ _ T rfl)
    .rw[f]at d;cases d
    .rw[f]at d;cases d
   .exact absurd (show(8:Int)=7 from b7) (by decide)
   .exact a4 eb.symm
def Xz{s t:gW}(C:s.kind=t.kind)(A:s.e9=t.e9)(D:s.order=t.order)(B:s.i7=t.i7)(h:∀p:Int,1<=p->p<=17->s.get p=t.get p):s=t:=by
 obtain⟨k0,c1,c2,c3,c4,c5,E,F,H,K,a,a0,b,a1,c,a2,d,e,f,g,i⟩:=s;obtain⟨d0,L,M,N,P,Q,R,S,T,W,j,a3,k,a4,l,a5,m,n,d18,o,q⟩:=t;have h1:c1=L:=h 1 (by omega) (by omega);have h2:c2=M:=h 2 (by omega) (by omega);have h3:c3=N:=h 3 (by omega) (by omega);have X:c4=P:=h 4 (by omega) (by omega);have h5:c5=Q:=h 5 (by omega) (by omega);have h6:E=R:=h 6 (by omega) (by omega);have h7:F=S:=h 7 (by omega) (by omega);have h8:H=T:=h 8 (by omega) (by omega);have h9:b=k:=h 9 (by omega) (by omega);have r:c=l:=h 10 (by omega) (by omega);have u:d=m:=h 11 (by omega) (by omega);have v:e=n:=h 12 (by omega) (by omega);have w:f=d18:=h 13 (by omega) (by omega);have h14:g=o:=h 14 (by omega) (by omega);have x:i=q:=h 15 (by omega) (by omega);have y:K=W:=h 16 (by omega) (by omega);have z:a=j:=h 17 (by omega) (by omega);simp only at C A D B;subst C A D B h1 h2 h3 X h5 h6 h7 h8 h9 r u v w h14 x y z;rfl
def XH(t:gW)(p v:Int):(t.put p v).kind=t.kind:=AO t p v (fun u=>u.kind=t.kind) rfl rfl rfl rfl rfl rfl rfl rfl rfl rfl rfl rfl rfl rfl rfl rfl rfl rfl
def Xx{s:gW}{p q n m:Int}(h1:1<=p)(h2:p<=17)(h3:1<=q)(a:q<=17)(h:p≠q):(s.put p n).put q m=(s.put q m).put p n:=by
 refine Xz ?_ ?_ ?_ ?_ fun k k1 c=>?_
 .simp only[XH]
 .simp only[Mn]
 .simp only[Mm]
 .simp only[OL]
 .by_cases e:k=q
  .subst e
   rw[P6 h3 a,IZ h1 h2 h,P6 h3 a]
  .by_cases b:k=p
   .subst b
    rw[IZ h3 a (fun e=>h e.symm),P6 h1 h2,P6 h1 h2]
   .rw[IZ h3 a (fun x=>e x.symm),IZ h1 h2 (fun x=>b x.symm),IZ h1 h2 (fun x=>b x.symm),IZ h3 a (fun x=>e x.symm)]
def WD(s:gW)(p n h:Int):({s with i7:=h}:gW).put p n={s.put p n with i7:=h}:=by
 by_cases a:1<=p/\p<=17
 .obtain rfl|rfl|rfl|rfl|rfl|rfl|rfl|rfl|rfl|rfl|rfl|rfl|rfl|rfl|rfl|rfl|rfl:=oL a.1 a.2<;>rfl
 .rw[SZ a,SZ a]
def Wy(s:gW)(p n h:Int):({s with order:=h}:gW).put p n={s.put p n with order:=h}:=by
 by_cases a:1<=p/\p<=17
 .obtain rfl|rfl|rfl|rfl|rfl|rfl|rfl|rfl|rfl|rfl|rfl|rfl|rfl|rfl|rfl|rfl|rfl:=oL a.1 a.2<;>rfl
 .rw[SZ a,SZ a]
def WQ(s:gW)(p n:Int)(h:ByteArray):({s with e9:=h}:gW).put p n={s.put p n with e9:=h}:=by
 by_cases a:1<=p/\p<=17
 .obtain rfl|rfl|rfl|rfl|rfl|rfl|rfl|rfl|rfl|rfl|rfl|rfl|rfl|rfl|rfl|rfl|rfl:=oL a.1 a.2<;>rfl
 .rw[SZ a,SZ a]
def V1{f:mN}{p:Nat}(h:rD f=some p)(s:gW)(n:Int):Ac s f n=s.put (p:Int) n:=by unfold Ac;rw[h]
def Wj(s:gW)(n:Int):Ac s lB n={s with i7:=n}:=by unfold Ac;rw[show rD lB=none by decide+kernel];simp only;rw[aq trivial]
def Wd(s:gW)(n:Int):Ac s kj n={s with order:=n}:=by unfold Ac;rw[show rD kj=none by decide+kernel];simp only;rw[aj (by decide+kernel)]
def Xt{s:gW}{f g:mN}{n m:Int}{d e:Nat}(b:Dv f=some d)(a:Dv g=some e)(h:f≠g):Ac (Ac s f n) g m=Ac (Ac s g m) f n:=by
 cases hf:rD f with
 |some p=>
  obtain⟨p1,j,c⟩:=Wi hf
  cases hg:rD g with
  |some q=>
   obtain⟨k,l,i⟩:=Wi hg;rw[V1 hf,V1 hg,V1 hg,V1 hf];exact Xx (by omega) (by omega) (by omega) (by omega) (fun x=>h (by rw[<- c,<- i];congr 1;omega))
  |none=>
   obtain rfl|rfl:=Wa a hg
   .rw[V1 hf,Wj,Wj,V1 hf];exact(WD s p n m).symm
   .rw[V1 hf,Wd,Wd,V1 hf];exact(Wy s p n m).symm
 |none=>
  cases hg:rD g with
  |some q=>
   obtain rfl|rfl:=Wa b hf
   .rw[V1 hg,Wj,Wj,V1 hg];exact WD s q m n
   .rw[V1 hg,Wd,Wd,V1 hg];exact Wy s q m n
  |none=>
   obtain rfl|rfl:=Wa b hf
   .obtain rfl|rfl:=Wa a hg
    .exact(h rfl).elim
    .simp only[Wj,Wd]
   .obtain rfl|rfl:=Wa a hg
    .simp only[Wj,Wd]
    .exact(h rfl).elim
def WP{s:gW}{f:mN}{n:Int}{d:Nat}(a:Dv f=some d)(v:ByteArray):Ac {s with e9:=v} f n={Ac s f n with e9:=v}:=by
 cases hf:rD f with
 |some p=>rw[V1 hf,V1 hf];exact WQ s p n v
 |none=>
  obtain rfl|rfl:=Wa a hf
  .simp only[Wj]
  .simp only[Wd]
def XB{a b:mN}{wa wb:List mN}{k l:Yb}(i:a≠b)(h1:Wn (a::wa)=some k)(h2:Wn (b::wb)=some l)(y:gM):WX k (WX l y)=WX l (WX k y):=by
 match k,l,h1,h2 with
 | .film o,.film q,h1,h2=>
   obtain⟨r,c⟩:=WT h1;obtain⟨t,h⟩:=WT h2
   injection c with c;injection h with h
   exact(i (c.trans h.symm)).elim
 | .film o,.e9 v,_,_=>rfl
 | .film o,.num f n,_,_=>rfl
 | .e9 v,.film o,_,_=>rfl
 | .e9 v,.e9 u,h1,h2=>
   have c:=Wq h1;have h:=Wq h2
   injection c with c;injection h with h
   exact(i (c.trans h.symm)).elim
 | .e9 v,.num f n,_,h2=>
   obtain⟨_,_,_,_,d,j,_⟩:=Ws h2;exact ai (fun s=>(⟨s,y.zs⟩:gM)) (WP j (bs v)).symm
 | .num f n,.film o,_,_=>rfl
 | .num f n,.e9 v,h1,_=>
   obtain⟨_,_,_,_,d,j,_⟩:=Ws h1;exact ai (fun s=>(⟨s,y.zs⟩:gM)) (WP j (bs v))
 | .num f n,.num g m,h1,h2=>
   obtain⟨_,c,_,_,d,j,_⟩:=Ws h1;obtain⟨_,h,_,_,d',p,_⟩:=Ws h2
   injection c with c;injection h with h
   exact ai (fun s=>(⟨s,y.zs⟩:gM)) (Xt p j (fun e=>i (by rw[c,h,e])))
structure WS (r p:jL):Prop where
 x:p.x=r.x
 a:p.at_=r.at_
 s:∀f,f∈p.seen↔f∈r.seen
def WN{r:jL}{f:mN}{ws:List mN}{l0:List gM}{y:gM}{e:Yb}(c:f=lG\/f ∉ r.seen)(b:r.x.l=l0++[y])(a:Wn (f::ws)=some e):
 lX r f ws=some ⟨{r.x with l:=l0++[WX e y]},7,if f=lG then r.seen else r.seen++[f]⟩:=by
 unfold lX;rw[aj (fun h=>c.elim h.1 (fun g=>g h.2)),b,qf,WB,a];rfl
def Xs{r p q:jL}{w:List mN}(h:WS r p)(c:kp r w=some q):∃l,kp p w=some l/\WS q l:=by
 match w,c with
 |[],c=>
  unfold kp at c⊢;split at c
  .cases c
  .rename_i i
   cases c;exact⟨p,by rw[aj (by rw[h.a];exact i)],h⟩
 |f::ws,c=>
  obtain⟨i,⟨k,y,t,d,B,rfl⟩|⟨hf,m,z⟩|⟨hf,n,rfl,d⟩⟩:=V0 c
  .exact⟨_,nt (by rw[h.a];exact i) t (by rw[h.a];exact d) (by rw[h.x];exact B),⟨rfl,rfl,fun _=>Iff.rfl⟩⟩
  .obtain⟨A,l0,y,e,u,o,rfl⟩:=V2 z
   refine⟨_,(AM (by rw[h.a];exact m) hf).trans (WN (A.imp id fun g v=>g ((h.s f).1 v)) (by rw[h.x];exact u) o),⟨by rw[h.x],rfl,fun g=>?_⟩⟩;by_cases b:f=lG
   .simp only[aq b];exact h.s g
   .simp only[aj b,bj,h.s g]
  .rw[<- h.x]at d
   obtain⟨cf,j,rfl⟩:=gj.1 d;refine⟨⟨{p.x with cf:=cf},8,p.seen⟩,(IY (by rw[h.a];exact n)).trans (by rw[j];rfl),⟨rfl,rfl,fun g=>h.s g⟩⟩
def Xd:∀(L:List (List mN))(r p q:jL),WS r p->mq r L=some q-> ∃a,mq p L=some a/\WS q a
 |[],r,p,q,h,hq=>by cases hq;exact⟨p,rfl,h⟩
 |w::L,r,p,q,h,hq=>by
  rw[mq]at hq
  cases hl:kp r w with
  |none=>rw[hl]at hq;cases hq
  |some e=>
   rw[hl,aO]at hq;obtain⟨d,b,h2⟩:=Xs h hl;obtain⟨a,c,h3⟩:=Xd L e d q h2 hq;exact⟨a,by rw[mq,b];exact c,h3⟩
def XI{m d:List (List mN)}{a b:mN}{wa wb:List mN}{z:jL}(p:a≠b)(N:a ∉ kV)(P:b ∉ kV)(v:a≠lj)(w:b≠lj)
 (h:mq Ae (m++(a::wa)::(b::wb)::d)=some z):∃q,mq Ae (m++(b::wb)::(a::wa)::d)=some q/\WS z q:=by
 rw[ke]at h;rw[ke]
 cases hp:mq Ae m with
 |none=>rw[hp]at h;cases h
 |some r=>
  rw[hp,aO]at h;rw[aO];rw[mq]at h
  cases hA:kp r (a::wa)with
  |none=>rw[hA]at h;cases h
  |some X=>
  rw[hA,aO,mq]at h
  cases hB:kp X (b::wb)with
  |none=>rw[hB]at h;cases h
  |some q2=>
  rw[hB,aO]at h
  have D:∀f:mN,f ∉ kV-> ∀k,kV.findIdx? (· ==f)≠some k:=fun f hf k e=>by
   rw[fm]at e;obtain⟨l1,c,_⟩:=e
   have c:kV[k]=f:=by simpa using c
   exact hf (c▸cW _)
  obtain⟨_,⟨Q,ya,n,_⟩|⟨n,H,S⟩|⟨n,a8,u,_⟩⟩:=V0 hA
  .exact(D a N Q n).elim
  .obtain⟨sa,l0,y,c,A,s,rfl⟩:=V2 S
   obtain⟨_,⟨R,yb,o,_⟩|⟨o,b7,T⟩|⟨o,b8,u,_⟩⟩:=V0 hB
   .exact(D b P R o).elim
   .obtain⟨sb,l1,y1,i,B,t,rfl⟩:=V2 T
    obtain⟨rfl,rfl⟩:=Wt (show l0++[WX c y]=l1++[y1]from B)
    have F:b=lG\/b ∉ r.seen:=by
     refine sb.imp id fun g C=>g ?_
     by_cases j:a=lG
     .simp only[aq j];exact C
     .simp only[aj j,bj];exact VR C
    have L:=(AM H o).trans (WN F A t)
    have E:a=lG\/a ∉ (if b=lG then r.seen else r.seen++[b]):=by
     refine sa.imp id fun g=>?_
     by_cases j:b=lG
     .rw[aq j];exact g
     .rw[aj j,bj,aK,not_or];exact⟨g,p⟩
    have g2:=(AM (r:=⟨{r.x with l:=l0++[WX i y]},7,if b=lG then r.seen else r.seen++[b]⟩) rfl n).trans (WN E rfl s);rw[XB p s t]at g2
    have M:WS ⟨{r.x with l:=l0++[WX i (WX c y)]},7,if b=lG then(if a=lG then r.seen else r.seen++[a])else(if a=lG then r.seen else r.seen++[a])++[b]⟩ ⟨{r.x with l:=l0++[WX i (WX c y)]},7,if a=lG then(if b=lG then r.seen else r.seen++[b])else(if b=lG then r.seen else r.seen++[b])++[a]⟩:=by
     refine⟨rfl,rfl,fun f=>?_⟩
     by_cases c:a=lG<;>by_cases i:b=lG
     .simp[c,i]
     .simp[c,i]
     .simp[c,i]
     .simp only[aj c,aj i,bj,aK]
      constructor
      .rintro((h|h)|h)
       .exact VR (VR h)
       .exact VS h
       .exact VR (VS h)
      .rintro((h|h)|h)
       .exact VR (VR h)
       .exact VS h
       .exact VR (VS h)
    obtain⟨W,K,h3⟩:=Xd d _ _ z M h;exact⟨W,by rw[mq,L,aO,mq,g2,aO];exact K,h3⟩
   .exact absurd u w
  .exact absurd u v
def Xl{f v:mN}{d:Nat}{z:Int}(h1:f≠lG)(h2:f≠lP)(b:Dv f=some d)(c:VZ v d=some z)(g:z≠0):NZ [f,v]:=by
 intro e a;unfold Wn at a
 dsimp only at a
 rw[aj h1]at a;simp only[aj h2,b,c,Option.map_some]at a;obtain rfl:=aE a;exact g
def XU{w:List mN}(h:Wn w=none):NZ w:=fun e a=>by rw[h]at a;cases a
def XC{f:mN}{ws:List mN}(h1:f≠lG)(h2:f≠lP)(a:Dv f=none):Wn (f::ws)=none:=by
 unfold Wn
 dsimp only
 rw[aj h1]
 match ws with
 |[]=>rfl
 |[v]=>simp only[aj h2,a]
 |_::_::_=>rfl
def XT{f:mN}{ws:List mN}(h:(decide (f≠lG)&&decide (f≠lP)&& (Dv f).isNone)=true):NZ (f::ws):=by
 simp only[am,aD,Option.isNone_iff_eq_none]at h;exact XU (XC h.1.1 h.1.2 h.2)
def XS(a b c:mN):NZ [lG,a,b,c]:=by
 intro e d;unfold Wn at d
 dsimp only at d
 rw[aq rfl]at d;unfold kF at d
 cases h:VZ a 7 with
 |none=>rw[h]at d;cases d
 |some n=>
  rw[h]at d;simp only at d
  cases h2:kF [b,c] [0,0]with
  |none=>rw[h2]at d;cases d
  |some f=>rw[h2]at d;cases d;exact fJ _ _
def XG{v:mN}(h:v≠[]):NZ [lP,v]:=by
 intro e a;unfold Wn at a
 dsimp only at a
 rw[aj (by decide)]at a;simp only[bX]at a;cases a;exact h
def Wo:List mN:=[xZ,sO,vA,Aa,qJ,vB,Ab,nq,lB,kj,lP,lG,mc,lj,Fp]++(List.range 17).map fun i=>km (i+1)
def Xc{p:Nat}(h1:1<=p)(h2:p<=17):km p∈Wo:=by
 refine bj.2 (VS (cP.2 ⟨p-1,aJ.2 (by omega),?_⟩));rw[show p-1+1=p by omega]
def Wx{x:gR}(h:iI x=true):∀w∈AI x,NZ w/\ ∃a wa,w=a::wa/\a∈Wo:=fun w hw=>by
 have o:=uH h
 have b:∀(f:mN)(ws:List mN),(decide (f≠lG)&&decide (f≠lP)&& (Dv f).isNone)=true->f∈Wo->NZ (f::ws)/\ ∃a wa,f::ws=a::wa/\a∈Wo:=fun f ws h1 h2=>⟨XT h1,f,ws,rfl,h2⟩
 unfold AI CH at hw;simp only[bj,aS,bi,cR]at hw
 rcases hw with((((hw|hw)|hw)|hw)|hw)|rfl
 .obtain rfl|rfl|rfl|rfl|rfl:=hw
  .exact b _ _ (by decide+kernel) (by decide+kernel)
  .exact b _ _ (by decide+kernel) (by decide+kernel)
  .exact b _ _ (by decide+kernel) (by decide+kernel)
  .exact b _ _ (by decide+kernel) (by decide+kernel)
  .exact b _ _ (by decide+kernel) (by decide+kernel)
 .obtain⟨i,_,rfl⟩:=cP.1 hw
  exact b _ _ (by decide+kernel) (by decide+kernel)
 .obtain⟨i,_,rfl⟩:=cP.1 hw
  exact b _ _ (by decide+kernel) (by decide+kernel)
 .obtain⟨l,e,hw⟩:=eP.1 hw
  obtain⟨y,q,rfl⟩:=cP.1 e;obtain⟨j,t,u⟩:=uG (o.l y q)
  have par:∀p:Nat,1<=p->p<=17-> ∀w∈ul y.s p,NZ w/\ ∃a wa,w=a::wa/\a∈Wo:=fun p h1 h2 w hw=>by
   unfold ul at hw;split at hw
   .cases hw
   .rename_i hz
    rw[aK]at hw;subst hw;obtain⟨_,_,k,m,_⟩:=mH h1 h2;refine⟨Xl k m (d:=oo p) (z:=y.s.get (p:Int)) ?_ (ny _ (j _).1 (j _).2) hz,_,_,rfl,Xc h1 h2⟩;unfold Dv;rw[up h1 h2]
  have g:∀a n:Nat,1<=a->a+n<=18-> ∀w∈pK y.s a n,NZ w/\ ∃a wa,w=a::wa/\a∈Wo:=fun a n h1 h2 w hw=>by
   unfold pK at hw;obtain⟨l,e,hw⟩:=eP.1 hw;obtain⟨i,hi,rfl⟩:=cP.1 e;have:=aJ.1 hi;exact par _ (by omega) (by omega) w hw
  unfold sZ AG at hw
  obtain rfl|hw:=aS.1 hw
  .exact b _ _ (by decide+kernel) (by decide+kernel)
  simp only[bj]at hw
  rcases hw with(((((hw|hw)|hw)|hw)|hw)|hw)|hw
  .exact g _ _ (by omega) (by omega) w hw
  .unfold yy at hw;split at hw
   .cases hw
   .rename_i hz
    rw[aK]at hw;subst hw;exact⟨Xl (by decide+kernel) (by decide+kernel) (d:=6) (z:=y.s.i7) (by decide+kernel) (ny _ (by omega) (by omega)) hz,_,_,rfl,by decide+kernel⟩
  .exact g _ _ (by omega) (by omega) w hw
  .unfold um at hw;split at hw
   .cases hw
   .rename_i hz
    rw[aK]at hw;subst hw;exact⟨Xl (by decide+kernel) (by decide+kernel) (d:=0) (z:=y.s.order) (by decide+kernel) (ny _ (by omega) (by omega)) hz,_,_,rfl,by decide+kernel⟩
  .exact g _ _ (by omega) (by omega) w hw
  .unfold uo at hw;split at hw
   .cases hw
   .rename_i hz
    rw[aK]at hw;subst hw;exact⟨XG hz,_,_,rfl,by decide+kernel⟩
  .obtain⟨i,_,rfl⟩:=cP.1 hw
   exact⟨XS _ _ _,_,_,rfl,by decide+kernel⟩
 .obtain⟨l,e,hw⟩:=eP.1 hw
  obtain⟨c,r,rfl⟩:=cP.1 e;unfold yz at hw
  obtain rfl|hw:=aS.1 hw
  .exact b _ _ (by decide+kernel) (by decide+kernel)
  .obtain⟨i,hi,rfl⟩:=cP.1 hw
   exact b _ _ (by decide+kernel) (by decide+kernel)
 .exact b _ _ (by decide+kernel) (by decide+kernel)
def Az{B g c:Nat}{D:Nat->Prop}{r:jL}{ws:List (List UInt8)}{W W':World}{e:Ending}(h:iE B g r.at_ c D (kp r ws) W e W')(hat:∀q,kp r ws=some q->q.at_=r.at_):pI (At B g) g c D r ws W e W':=by
 obtain⟨h1,h2,h3⟩:=h;refine⟨h1,h2,h3.imp ?_ id⟩;rintro⟨q,a,b,D',d,h5⟩;refine⟨q,a,b,D',d,?_⟩
 show vM B g q.at_ _ _ _ _
 rw[hat q a];exact h5
def lT{B g c:Nat}{D:Nat->Prop}{r:jL}{ws:List (List UInt8)}{W W':World}(h:kp r ws=none)(a:Below W W W')(b:g<=W.heap.size):pI (At B g) g c D r ws W iX W':=
 ⟨a.mono b,fun k d _=>a.block k d,VS ⟨h,rfl⟩⟩
def qg{B g c k:Nat}{D:Nat->Prop}{r:jL}{y:gR}{ws:List (List UInt8)}{W W':World}(h:iE B g r.at_ c D (some ⟨y,(k:Int),[]⟩) W (.returned (.tuple #[])) W')(l:kp r ws=some ⟨y,(k:Int),[]⟩)(d:D g):pI (At B g) g c D r ws W (.returned (.tuple #[])) (W'.setCell ⟨g,9,none⟩ (.int .i64 (k:Int))):=by
 obtain⟨h1,h2,h3⟩:=h
 obtain ⟨q,f,_,D',i,h5⟩|⟨e,_⟩:=h3
 .cases f
  exact⟨kZ h1 (aa _),fun b j a=>(iS (fun e=>a (by rw[e];exact d))).trans (h2 b j a),VR ⟨_,l,rfl,D',i,h5.put⟩⟩
 .cases e
def sX(r:jL)(k:Nat):Prop:=(k:Int)=r.at_+1\/(5<=k/\4<=r.at_/\r.at_<=(k:Int))
def uI{B g cc n c N k:Nat}{j:Int}{D:Nat->Prop}{r:jL}{W:World}{ws:List (List UInt8)}{a:Option Addr}(l:k<10)(h:vM B g j cc D r W)(p:sX r k)(z:r.at_≠9)(hw:ua W a n c ws W)(e:∀s∈ws,s.length<=100000)(o:ws.length<=100000)(d:cc<=100001)(b:B<=W.heap.size)(i:GW W)(u:TW N W)(t:N<=W.heap.size):
 Calls prog (RB k) #[U g,Z a n c] W (iE B g j cc D ((jk r.x k ws).map fun y=>⟨y,(k:Int),[]⟩) W):=by
 have w:r.at_<=9:=by obtain⟨f,v,s,k,m,A,q⟩:=h;exact q.hi
 unfold sX at p
 match k,l with
 |0,_=>exact LM h hw e (by omega) d b i
 |1,_=>exact FM h hw e (by omega) d b i
 |2,_=>exact IE h hw e (by omega) d b i
 |3,_=>exact LN h hw e (by omega) d b i
 |4,_=>exact DK h hw e (by omega) d b i
 |5,_=>exact IF h hw e o (by omega) d b i
 |6,_=>exact LQ h hw e o (by omega) d b i
 |7,_=>exact DM h hw (by omega) d b u t
 |8,_=>exact FO h hw e (by omega) d b
 |9,_=>exact N0 h hw (by omega) d b
 |k+10,l=>omega
def IJ{r:jL}{ws:List (List UInt8)}(h:r.at_=9):kp r ws=none:=by unfold kp;rw[aq h]
def IK{r:jL}{a:List UInt8}{ws:List (List UInt8)}{k:Nat}(b:r.at_≠9)(c:kV.findIdx? (· ==a)=some k):(sX r k->kp r (a::ws)=(jk r.x k ws).map fun y=>⟨y,(k:Int),[]⟩)/\(¬sX r k->kp r (a::ws)=none):=by
 constructor
 .intro h
  unfold kp;simp only[aj b,c];exact aq h
 .intro h
  unfold kp;simp only[aj b,c];exact aj h
def IL{r:jL}{a:List UInt8}{ws:List (List UInt8)}(b:r.at_=7)(c:kV.findIdx? (· ==a)=none):kp r (a::ws)=lX r a ws:=by
 unfold kp lX;simp only[aj (show¬r.at_=9 by omega),c,aq b]
def DR{r:jL}{ws:List (List UInt8)}(a:r.at_=8):kp r (lj::ws)=mh r lj ws:=by
 have b:kV.findIdx? (· ==lj)=none:=by decide
 unfold kp mh;simp only[aj (show¬r.at_=9 by omega),b,aj (show¬r.at_=7 by omega)];rw[aq ⟨a,trivial⟩]
def yt{r:jL}{a:List UInt8}{ws:List (List UInt8)}(d:r.at_≠9)(b:r.at_≠7)(c:¬(r.at_=8/\a=lj))(e:kV.findIdx? (· ==a)=none):kp r (a::ws)=none:=by
 unfold kp;simp only[aj d,e,aj b,aj c]
def Og{r q:jL}{a:List UInt8}{ws:List (List UInt8)}(h:lX r a ws=some q):q.at_=7:=by
 unfold lX at h;split at h
 .cases h
 .cases hp:ou r.x.l (fun y=>Ad y (a::ws))with
  |none=>rw[hp]at h;cases h
  |some l=>rw[hp]at h;cases h;rfl
def IM{r q:jL}{a:List UInt8}{ws:List (List UInt8)}(h:mh r a ws=some q):q.at_=8:=by
 unfold mh at h
 cases hp:ou r.x.cf (fun c=>sP c (a::ws))with
 |none=>rw[hp]at h;cases h
 |some l=>rw[hp]at h;cases h;rfl
def Oh(args:Array Value)(w:World):(callFunc 292 args).run prog w=.ok (.enter 292 args) w:=by kernel_rfl
def Oi(args:Array Value)(w:World):(callFunc 293 args).run prog w=.ok (.enter 293 args) w:=by kernel_rfl
def Oj(args:Array Value)(w:World):(callFunc 294 args).run prog w=.ok (.enter 294 args) w:=by kernel_rfl
def Ol(args:Array Value)(w:World):(callFunc 295 args).run prog w=.ok (.enter 295 args) w:=by kernel_rfl
def Om(args:Array Value)(w:World):(callFunc 296 args).run prog w=.ok (.enter 296 args) w:=by kernel_rfl
def On(args:Array Value)(w:World):(callFunc 297 args).run prog w=.ok (.enter 297 args) w:=by kernel_rfl
def Oo(args:Array Value)(w:World):(callFunc 298 args).run prog w=.ok (.enter 298 args) w:=by kernel_rfl
def Oq(args:Array Value)(w:World):(callFunc 299 args).run prog w=.ok (.enter 299 args) w:=by kernel_rfl
def Ot(args:Array Value)(w:World):(callFunc 300 args).run prog w=.ok (.enter 300 args) w:=by kernel_rfl
def Ou(args:Array Value)(w:World):(callFunc 301 args).run prog w=.ok (.enter 301 args) w:=by kernel_rfl
def uJ(k:Nat)(a:k<10):∀args w,(callFunc (RB k) args).run prog w=.ok (.enter (RB k) args) w:=by
 match k,a with
 |0,_=>exact Oh
 |1,_=>exact Oi
 |2,_=>exact Oj
 |3,_=>exact Ol
 |4,_=>exact Om
 |5,_=>exact On
 |6,_=>exact Oo
 |7,_=>exact Oq
 |8,_=>exact Ot
 |9,_=>exact Ou
 |k+10,a=>omega
def Tryz.zeroRdr(w:World):(zeroValue 157).run prog w=.ok .nilFunc w:=by kernel_rfl
def AA{B g:Nat}{a:Int}{c:Nat}{D:Nat->Prop}{b:Option jL}{W W':World}{e:Ending}(h:iE B g a c D b W e W'):e=.returned (.tuple #[])\/e=iX:=by
 obtain ⟨_,_,h,_⟩|⟨_,h⟩:=h.2.2
 .exact VR h
 .exact VS h
def P8(a:Int):a=9\/((a !=9)=true):=by
 by_cases h:a=9
 .exact VR h
 .exact VS (by rw[fk];exact h)
def L9{B g c A:Nat}{D:Nat->Prop}{r:jL}{W:World}{l:List UInt8}{ws:List (List UInt8)}(h:At B g c D r W)(hw:ua W (J A) (ws.length+1) (ws.length+1) (l::ws) W)(hl:∀s∈l::ws,s.length<=100000)(hn:ws.length<=100000)(hc:c<=100001)(hB:B<=W.heap.size)(hg:GW W)(hT:TW g W):
 Calls prog 37 #[U g,Z (J A) (ws.length+1) (ws.length+1)] W (pI (At B g) g c D r (l::ws) W):=by
 obtain⟨e3,b7,d7,d6⟩:g<B/\D g/\ -1<=r.at_/\r.at_<=9:=by obtain⟨f,v,s,k,m,hA,hL⟩:=h;exact⟨hL.gB,hL.dg,hL.lo,hL.hi⟩
 have hgl:g<W.heap.size:=by omega
 obtain⟨c9,f9⟩:W.cell? ⟨g,9,none⟩=some (.int .i64 r.at_)/\W.frozen? ⟨g,9,none⟩=false:=by obtain⟨f,v,s,k,m,hA,hL⟩:=h;exact hA.cell 9
 have b5:W.cell? (J A)=some (.string (bs l)):=by
  obtain⟨g',off,e,_,h3⟩:=hw.2.2 (by omega);cases e;exact h3 0 l rfl
 have d2:A<W.heap.size:=by
  obtain⟨g',off,e,h3,_⟩:=hw.2.2 (by omega);cases e;exact h3
 obtain⟨oa,on,oc,ho,c3⟩:=hT.ord;have e0:on=10:=c3.1.symm;subst e0;have d8:1<W.heap.size:=ab (ab (show 1<14 by decide) hT.glo) (by omega);have H:=O h;have Hw:=O hw;have Hl:=O hl;have Hg:=O hg;have HT:=O hT;have c7:=O c3;have Hn:=O hn;clear h hw hl hg hT c3 hn f9;go_enter func37,ntmps37
 obtain h9|h9:=P8 r.at_
 .have t:pI (At B g) g c D r (l::ws) W iX W:=lT (IJ h9) (TH _ _) (by omega)
  have b8:=t;rw[h9]at c9;clear t h9 b5 ho d7 d6;unfold iX at b8;have F:=O b8;clear b8;go_wp2_with fail;refine(lm _).mono ?_;rintro e w3 ⟨rfl,rfl⟩;unfold iX;go_wp2_with fail;exact⟨rfl,F⟩
 .have d0:r.at_≠9:=by rw[fk]at h9;exact h9
  have H9:=O d0;clear d0;go_wp2_with fail;refine(kW _).mono ?_;rintro e w3 ⟨rfl,rfl⟩;clear h9;go_upto_region 1 with fail;refine gS 5 [(0,true),(1,true),(2,true),(3,true),(4,false)] (by kernel_rfl) (by kernel_rfl) ?_
  iterate 4
   refine gU (v:=?_) ?_ ?_;rotate_left
   .intro y u
    have k1:=(u.cell (p:=J 1) d8).trans ho;have k2:=(u.cell (p:=J A) d2).trans b5;go_simp;with_reducible rfl
   try simp only[V]
  refine gP (fun KK d1=>?_);go_simp;refine(Ar kV l oa 10 oc g W.drew (c7.kept (fun _ _=>rfl) (aa _)) (show g<=W.heap.size by omega) (by omega)).mono ?_;rintro e j ⟨rfl,c2⟩;refine d1 _ _ c2 ?_;clear d1 KK;(try simp only[V]);refine iu rfl ?_;have R:Below W W j:=(TH W W).drew.trans c2;have e5:=R.size;have d9:j.cell? ⟨g,9,none⟩=some (.int .i64 r.at_):=(R.cell (p:=⟨g,9,none⟩) hgl).trans c9;have X:j.cell? (J A)=some (.string (bs l)):=(R.cell (p:=J A) d2).trans b5;have H4:=O (vM.go H R);have P:=O R;have b4:=O (sV Hw R);have b3:=O (Hg.below R);have T:=O (HT.below (R.mono (by omega)));clear c2 R c9 b5 ho H Hw Hg HT c7
  cases hk:kV.findIdx? (· ==l)with
  |some k=>
   have w:k<10:=qN hk;have i:=O (IK (ws:=ws) H9 hk);have Hk:=O hk;clear hk;unfold Lj
   have e4:(0:Int)<=(k:Int):=by omega
   by_cases h1:(k:Int)=r.at_+1
   .have d3:((k:Int)==r.at_+1)=true:=by rw[dz];exact h1
    have z:=O (show sX r k from VR h1);clear h1;go_wp2_with fail;refine(kW _).mono ?_;rintro e w5 ⟨rfl,rfl⟩;go_upto_region 4 with fail;have a7:4<j.heap.size:=ab (ab (show 4<14 by decide) T.glo) (by omega);obtain⟨ob,ol,b1,c5,b0,C⟩:=T.rdr
    have a2:ob<j.heap.size:=by omega
    have a9:∀y,Below j j y->(Instr.lookup 158 (.map (some ob)) (.string (bs l)) false).run prog y=.ok (.func (.func (RB k)) #[] #[]) y:=fun y u=>by
     rw[mM underlying158 underlying9 (Tryz.zeroRdr y) (b0.block (u.block ob a2)) l false,C l];unfold Fv;rw[Hk];rfl
    have a5:=O a9;clear b0 C a9
    have S:A<j.heap.size:=by omega
    have c4:g<j.heap.size:=by omega
    have a6:B<=j.drew.heap.size:=by show B<=j.heap.size;omega
    have a8:g<=j.drew.heap.size:=by show g<=j.heap.size;omega
    have a4:=O (P.drew);have L:Below j j j.drew:=(TH _ _).drew;have a3:=O (vM.go H4 L);have Q:=O (b3.below L);have N:=O (T.below (L.mono (by omega)));have b9:=O (sV b4 L);clear L;by_cases b2:ws.length=0
    .obtain rfl:ws=[]:=aX.1 b2
     refine gS 8 [(0,true),(1,true),(2,true),(3,true),(4,true),(5,true),(6,true),(7,true)] (by kernel_rfl) (by kernel_rfl) ?_
     iterate 8
      refine gU (v:=?_) ?_ ?_;rotate_left
      .intro y u
       have k1:=(u.cell (p:=J 4) a7).trans b1;have k2:=(u.cell (p:=J A) S).trans X;have k3:=a5 y (gJ (k:=1) u);go_simp;with_reducible rfl
      try simp only[V]
     refine iu rfl ?_;have E:=uJ k w;go_wp2_with fail;clear E;refine(uI w a3 z H9 ⟨rfl,aa _,fun h0=>absurd h0 (by simp)⟩ (fun s hs=>Hl s (au _ hs)) Hn hc a6 Q N a8).mono ?_;rintro e w6 n;have a:=mf n a4 (by omega);clear n
     cases hh:jk r.x k []with
     |none=>
      rw[hh]at a
      obtain ⟨q,o,_⟩|⟨_,rfl⟩:=a.2.2
      .cases o
      .have b:pI (At B g) g c D r (l::[]) W iX w6:=⟨a.1,a.2.1,VS ⟨(i.1 z).trans (by rw[hh];rfl),rfl⟩⟩
       clear a hh;unfold iX at b⊢;have d:=O b;clear b;go_wp2_with fail;exact⟨rfl,d⟩
     |some y=>
      rw[hh]at a
      obtain ⟨q,o,rfl,D',h4,h5⟩|⟨o,_⟩:=id a.2.2
      .have M:kp r (l::[])=some ⟨y,(k:Int),[]⟩:=(i.1 z).trans (by rw[hh];rfl)
       have d:=O (qg (k:=k) (y:=y) a M b7);obtain⟨f',v',s',k',m',K,a1⟩:=h5;obtain⟨a0,c0⟩:=K.cell 9
       change w6.cell? ⟨g,9,none⟩=some (.int .i64 r.at_)at a0
       clear a M a1 K h4 hh o X d9;go_wp2;go_end0;exact d
      .cases o
    .have c6:¬ws=[]:=fun e=>b2 (by rw[e];rfl)
     have d5:(1:Int)<=(ws.length:Int)+1:=by omega
     refine gS 8 [(0,true),(1,true),(2,true),(3,true),(4,true),(5,true),(6,true),(7,true)] (by kernel_rfl) (by kernel_rfl) ?_
     iterate 8
      refine gU (v:=?_) ?_ ?_;rotate_left
      .intro y u
       have k1:=(u.cell (p:=J 4) a7).trans b1;have k2:=(u.cell (p:=J A) S).trans X;have k3:=a5 y (gJ (k:=1) u);go_simp;with_reducible rfl
      try simp only[V]
     refine iu rfl ?_;have E:=uJ k w;go_wp2_with fail;clear E;refine(uI w a3 z H9 (by have:=Ay b9;simpa using this) (fun s hs=>Hl s (au _ hs)) Hn hc a6 Q N a8).mono ?_;rintro e w6 n;have a:=mf n a4 (by omega);clear n
     cases hh:jk r.x k ws with
     |none=>
      rw[hh]at a
      obtain ⟨q,o,_⟩|⟨_,rfl⟩:=a.2.2
      .cases o
      .have b:pI (At B g) g c D r (l::ws) W iX w6:=⟨a.1,a.2.1,VS ⟨(i.1 z).trans (by rw[hh];rfl),rfl⟩⟩
       clear a hh;unfold iX at b⊢;have d:=O b;clear b;go_wp2_with fail;exact⟨rfl,d⟩
     |some y=>
      rw[hh]at a
      obtain ⟨q,o,rfl,D',h4,h5⟩|⟨o,_⟩:=id a.2.2
      .have M:kp r (l::ws)=some ⟨y,(k:Int),[]⟩:=(i.1 z).trans (by rw[hh];rfl)
       have d:=O (qg (k:=k) (y:=y) a M b7);obtain⟨f',v',s',k',m',K,a1⟩:=h5;obtain⟨a0,c0⟩:=K.cell 9
       change w6.cell? ⟨g,9,none⟩=some (.int .i64 r.at_)at a0
       clear a M a1 K h4 hh o X d9;go_wp2;go_end0;exact d
      .cases o
   .have d3:((k:Int)==r.at_+1)=false:=by rw[ak];exact h1
    by_cases h5:5<=k
    .by_cases h4:4<=r.at_
     .by_cases h6:r.at_<=(k:Int)
      .have z:=O (show sX r k from VS ⟨h5,h4,h6⟩)
       have c1:(5:Int)<=(k:Int):=by omega
       clear h1;go_wp2_with fail;refine(kW _).mono ?_;rintro e w5 ⟨rfl,rfl⟩;go_upto_region 4 with fail;have a7:4<j.heap.size:=ab (ab (show 4<14 by decide) T.glo) (by omega);obtain⟨ob,ol,b1,c5,b0,C⟩:=T.rdr
       have a2:ob<j.heap.size:=by omega
       have a9:∀y,Below j j y->(Instr.lookup 158 (.map (some ob)) (.string (bs l)) false).run prog y=.ok (.func (.func (RB k)) #[] #[]) y:=fun y u=>by
        rw[mM underlying158 underlying9 (Tryz.zeroRdr y) (b0.block (u.block ob a2)) l false,C l];unfold Fv;rw[Hk];rfl
       have a5:=O a9;clear b0 C a9
       have S:A<j.heap.size:=by omega
       have c4:g<j.heap.size:=by omega
       have a6:B<=j.drew.heap.size:=by show B<=j.heap.size;omega
       have a8:g<=j.drew.heap.size:=by show g<=j.heap.size;omega
       have a4:=O (P.drew);have L:Below j j j.drew:=(TH _ _).drew;have a3:=O (vM.go H4 L);have Q:=O (b3.below L);have N:=O (T.below (L.mono (by omega)));have b9:=O (sV b4 L);clear L;by_cases b2:ws.length=0
       .obtain rfl:ws=[]:=aX.1 b2
        refine gS 8 [(0,true),(1,true),(2,true),(3,true),(4,true),(5,true),(6,true),(7,true)] (by kernel_rfl) (by kernel_rfl) ?_
        iterate 8
         refine gU (v:=?_) ?_ ?_;rotate_left
         .intro y u
          have k1:=(u.cell (p:=J 4) a7).trans b1;have k2:=(u.cell (p:=J A) S).trans X;have k3:=a5 y (gJ (k:=1) u);go_simp;with_reducible rfl
         try simp only[V]
        refine iu rfl ?_;have E:=uJ k w;go_wp2_with fail;clear E;refine(uI w a3 z H9 ⟨rfl,aa _,fun h0=>absurd h0 (by simp)⟩ (fun s hs=>Hl s (au _ hs)) Hn hc a6 Q N a8).mono ?_;rintro e w6 n;have a:=mf n a4 (by omega);clear n
        cases hh:jk r.x k []with
        |none=>
         rw[hh]at a
         obtain ⟨q,o,_⟩|⟨_,rfl⟩:=a.2.2
         .cases o
         .have b:pI (At B g) g c D r (l::[]) W iX w6:=⟨a.1,a.2.1,VS ⟨(i.1 z).trans (by rw[hh];rfl),rfl⟩⟩
          clear a hh;unfold iX at b⊢;have d:=O b;clear b;go_wp2_with fail;exact⟨rfl,d⟩
        |some y=>
         rw[hh]at a
         obtain ⟨q,o,rfl,D',h4,h5⟩|⟨o,_⟩:=id a.2.2
         .have M:kp r (l::[])=some ⟨y,(k:Int),[]⟩:=(i.1 z).trans (by rw[hh];rfl)
          have d:=O (qg (k:=k) (y:=y) a M b7);obtain⟨f',v',s',k',m',K,a1⟩:=h5;obtain⟨a0,c0⟩:=K.cell 9
          change w6.cell? ⟨g,9,none⟩=some (.int .i64 r.at_)at a0
          clear a M a1 K h4 hh o X d9;go_wp2;go_end0;exact d
         .cases o
       .have c6:¬ws=[]:=fun e=>b2 (by rw[e];rfl)
        have d5:(1:Int)<=(ws.length:Int)+1:=by omega
        refine gS 8 [(0,true),(1,true),(2,true),(3,true),(4,true),(5,true),(6,true),(7,true)] (by kernel_rfl) (by kernel_rfl) ?_
        iterate 8
         refine gU (v:=?_) ?_ ?_;rotate_left
         .intro y u
          have k1:=(u.cell (p:=J 4) a7).trans b1;have k2:=(u.cell (p:=J A) S).trans X;have k3:=a5 y (gJ (k:=1) u);go_simp;with_reducible rfl
         try simp only[V]
        refine iu rfl ?_;have E:=uJ k w;go_wp2_with fail;clear E;refine(uI w a3 z H9 (by have:=Ay b9;simpa using this) (fun s hs=>Hl s (au _ hs)) Hn hc a6 Q N a8).mono ?_;rintro e w6 n;have a:=mf n a4 (by omega);clear n
        cases hh:jk r.x k ws with
        |none=>
         rw[hh]at a
         obtain ⟨q,o,_⟩|⟨_,rfl⟩:=a.2.2
         .cases o
         .have b:pI (At B g) g c D r (l::ws) W iX w6:=⟨a.1,a.2.1,VS ⟨(i.1 z).trans (by rw[hh];rfl),rfl⟩⟩
          clear a hh;unfold iX at b⊢;have d:=O b;clear b;go_wp2_with fail;exact⟨rfl,d⟩
        |some y=>
         rw[hh]at a
         obtain ⟨q,o,rfl,D',h4,h5⟩|⟨o,_⟩:=id a.2.2
         .have M:kp r (l::ws)=some ⟨y,(k:Int),[]⟩:=(i.1 z).trans (by rw[hh];rfl)
          have d:=O (qg (k:=k) (y:=y) a M b7);obtain⟨f',v',s',k',m',K,a1⟩:=h5;obtain⟨a0,c0⟩:=K.cell 9
          change w6.cell? ⟨g,9,none⟩=some (.int .i64 r.at_)at a0
          clear a M a1 K h4 hh o X d9;go_wp2;go_end0;exact d
         .cases o
      .have c1:(5:Int)<=(k:Int):=by omega
       have t:pI (At B g) g c D r (l::ws) W iX j:=lT (i.2 (by unfold sX;omega)) P (by omega);clear i;unfold iX at t;have F:=O t;clear t;have H1:=O h1;clear h1;go_wp2_with fail;refine(lm _).mono ?_;rintro e w5 ⟨rfl,rfl⟩;unfold iX;go_wp2_with fail;exact⟨rfl,F⟩
     .have c1:(5:Int)<=(k:Int):=by omega
      have t:pI (At B g) g c D r (l::ws) W iX j:=lT (i.2 (by unfold sX;omega)) P (by omega);clear i;unfold iX at t;have F:=O t;clear t;have H1:=O h1;clear h1;go_wp2_with fail;refine(lm _).mono ?_;rintro e w5 ⟨rfl,rfl⟩;unfold iX;go_wp2_with fail;exact⟨rfl,F⟩
    .have c1:¬(5:Int)<=(k:Int):=by omega
     have t:pI (At B g) g c D r (l::ws) W iX j:=lT (i.2 (by unfold sX;omega)) P (by omega);clear i;unfold iX at t;have F:=O t;clear t;have H1:=O h1;clear h1;go_wp2_with fail;refine(lm _).mono ?_;rintro e w5 ⟨rfl,rfl⟩;unfold iX;go_wp2_with fail;exact⟨rfl,F⟩
  |none=>
   unfold Lj;by_cases h7:r.at_=7
   .have Hr:=O (IL (ws:=ws) h7 hk)
    have Hk:=O hk;clear hk;have H7:=O h7;rw[h7]at d9;clear h7;go_wp2_with fail;have hp:=H4.out;unfold At at hp;refine(L6 (ws:=ws) (by rw[<- H7];exact hp) H7 b4 Hl Hn hc (by omega) b3 T (by omega)).mono ?_;rintro e w5 n;have a:=mf n P (by omega);have b:pI (At B g) g c D r (l::ws) W e w5:=Az (by rw[H7,Hr];exact a) (fun q hq=>by rw[Hr]at hq;rw[H7];exact Og hq);have he:=AA n;clear n a hp
    obtain rfl|rfl:=he
    .have d:=O b;clear b
     go_wp2;go_end0;exact d
    .unfold iX at b⊢
     have d:=O b;clear b;go_wp2_with fail;exact⟨rfl,d⟩
   .have c8:(r.at_==7)=false:=by rw[ak];exact h7
    by_cases h8:r.at_=8
    .by_cases b6:l=lj
     .subst b6
      have Hr:=O (DR (ws:=ws) h8);have Hk:=O hk;clear hk h7 c8;have H8:=O h8;rw[h8]at d9;clear h8
      have d4:(bs lj==({data:=#[99,104,97,110,103,101]}:ByteArray))=true:=by decide
      go_wp2_with fail;have hp:=H4.out;unfold At at hp;refine(FT (ws:=ws) (by rw[<- H8];exact hp) H8 b4 Hl Hn hc (by omega) b3 T (by omega)).mono ?_;rintro e w5 n;have a:=mf n P (by omega);have b:pI (At B g) g c D r (lj::ws) W e w5:=Az (by rw[H8,Hr];exact a) (fun q hq=>by rw[Hr]at hq;rw[H8];exact IM hq);have he:=AA n;clear n a hp
      obtain rfl|rfl:=he
      .have d:=O b;clear b
       go_wp2;go_end0;exact d
      .unfold iX at b⊢
       have d:=O b;clear b;go_wp2_with fail;exact⟨rfl,d⟩
     .have t:pI (At B g) g c D r (l::ws) W iX j:=lT (yt H9 h7 (fun h=>b6 h.2) hk) P (by omega)
      have d4:(l==[99,104,97,110,103,101])=false:=by rw[ak];exact b6
      rw[h8]at d9;clear hk h7 c8 h8 b6;unfold iX at t;have F:=O t;clear t;go_wp2_with fail;refine(lm _).mono ?_;rintro e w5 ⟨rfl,rfl⟩;unfold iX;go_wp2_with fail;exact⟨rfl,F⟩
    .have t:pI (At B g) g c D r (l::ws) W iX j:=lT (yt H9 h7 (fun h=>h8 h.1) hk) P (by omega)
     have e2:(r.at_==8)=false:=by rw[ak];exact h8
     clear hk h7 h8;unfold iX at t;have F:=O t;clear t;go_wp2_with fail;refine(lm _).mono ?_;rintro e w5 ⟨rfl,rfl⟩;unfold iX;go_wp2_with fail;exact⟨rfl,F⟩
def RF(B g:Nat):vD B g (At B g) where
 lens:=by
  rintro c D r W ⟨f,v,s,k,m,e,d⟩;exact⟨f,v,s,k,m,e,d.lensAt⟩
 own:=by
  rintro c D r W b ⟨f,v,s,k,m,e,d⟩ l;exact d.own b l
 kept:=by
  intro c D r W W' h p u;exact vM.keep h p u
 read:=by
  intro c D r W ws A h hw a q t n i o j
  match ws,a with
  |[],a=>exact absurd rfl a
  |fw::ws,_=>exact L9 h hw q (by rw[aH]at t;omega) n i o j
def vE(t:List UInt8)(w:World)(c:GW w)(b:TW w w)(a:jY w w)(d:t.length<=100000):Calls prog 13 #[.string (bs t)] w (ye w (nr t)):=
 LH (Rd:=At (w+8) (w+3)) t w (RF _ _) (fun W h=>NX (by omega) h) c b a d
def DQ(x:gR):List UInt8:=if x.i9=0 then lQ else iz x.i9 6
def G(x:gR):Nat->List UInt8
 |0=>iF [xZ,VX x.nm]
 |1=>iF [sO,DQ x]
 |2=>iF [vA,iz x.p9 6]
 |3=>iF [Aa,iz x.stop 0]
 |4=>iF [qJ,iz x.i4 0]
 |5=>((List.range (x.fs.length/2)).map (nE x.fs)).flatten
 |6=>((List.range (x.ws.length/2)).map (qK x.ws)).flatten
 |7=>(x.l.map oq).flatten
 |8=>(x.cf.map ot).flatten
 |_=>iF [Fp]
def Yw(x:gR):Nat->List UInt8
 |0=>[]
 |k+1=>Yw x k++G x k
def Yn(x:gR):nO x=Yw x 10:=rfl
def Yq(x:gR)(k:Nat):∀n,(Yw x k).length<=(Yw x (k+n)).length
 |0=>aa _
 |n+1=>af (Yq x k n) (by rw[<- cN,Yw,al];omega)
def Yj(x:gR)(k:Nat)(a:k+1<=10){t p:List UInt8}(e:G x k=t)(h:Yt p t)(b:∀k,k<=10->(Yw x k).length<=1000000):(Yw x k++p).length<=1000000:=by
 subst e;exact Yi h (b (k+1) a)
def Yk{p q:List UInt8}{m:Nat}(h:(p++q).length<=m):p.length<=m:=by rw[al]at h;omega
structure yQ (B:Nat) (x:gR) (f v s k:iJ) (l:List UInt8) (w W:World):Prop where
 l9:hU W w 38 x f v s k
 b:Lib.IsBuilder 87 5 B B (Lib.byteCells l) W
 be:Below w w W
 lo:w.heap.size<B
 hi:B<W.heap.size
def yQ.next{B:Nat}{x:gR}{f v s k:iJ}{l l':List UInt8}{w W d e:World}(h:yQ B x f v s k l w W)(a:Below W W d)(h2:L7 B B l' d (.returned (.tuple #[])) e):yQ B x f v s k l' w e:=by
 obtain⟨_,h3,c,_⟩:=h2;have j:=a.size;have i:=c.size;have b:=h.lo;have g:=h.hi;exact⟨(c.block _ b).trans ((a.block _ h.l9.lt).trans h.l9),h3,(h.be.trans (a.mono (by omega))).trans (c.mono (by omega)),b,by omega⟩
def yQ.go{B:Nat}{x:gR}{f v s k:iJ}{l:List UInt8}{w W c:World}(h:yQ B x f v s k l w W)(a:Below W W c):yQ B x f v s k l w c:=by
 have g:=a.size;have e:=h.hi;have d:=h.lo;exact⟨(a.block _ h.l9.lt).trans h.l9,iq h.b a,h.be.trans (a.mono (by omega)),d,by omega⟩
def yQ.line{B:Nat}{x:gR}{f v s k:iJ}{l:List UInt8}{w W a:World}(h:yQ B x f v s k l w W)(c:Below W W a)(ws:List (List UInt8)){g n:Nat}(hw:a.heap[g]? =some (.cells (ji ws).toArray 9 (0,0)))(i:(l++iF ws).length<=1000000)(j:ws.length=n:=by rfl)(h9:n<=9:=by decide):
 Calls prog 27 #[U B,Z (J g) n n] a fun e d=>e=.returned (.tuple #[])/\yQ B x f v s k (l++iF ws) w d/\kY B a d:=by
 subst j;have h1:=c.size;have h2:=h.hi;rw[al]at i;refine(kL ws g ws.length B B l a hw (aa _) (by omega) i (iq h.b c) (by omega)).mono ?_;rintro e d h3;obtain rfl:=jz h3;exact⟨rfl,h.next c h3,h3.2.2.2⟩
def CA{α:Type}(f:α->List UInt8)(l:List α){k:Nat}{y:α}(h:l[k]? =some y):((l.take (k+1)).map f).flatten=((l.take k).map f).flatten++f y:=by
 rw[mn h,aT,cG];simp
def wI(x:gR):Value:=.tuple #[.string (bs (if iI x=true then nO x else[])),.int .i64 (if iI x=true then 0 else 120)]
def CB(x:gR)(f v s k:iJ)(w:World)(hx:iP (fun b=>b<w.heap.size) w x f v s k)(hg:GW w)(hP:jY w w)(hT:TW w w)(t:iI x=true->(nO x).length<=1000000):
 Calls prog 7 #[jG x f v s k] w (iZ w (wI x)):=by
 have X:=O ((TH w w).alloc (aa _) (.cells (iw x f v s k).toArray 38));have c8:=O (show hU (w.alloc (.cells (iw x f v s k).toArray 38)) w 38 x f v s k from TL w _);have M:=O hx;have Hg:=O hg;have HP:=O hP;have HT:=O hT;have c7:=O t;clear hx hg hP hT t;unfold jG;go_enter func7,ntmps7;go_upto_region 1 with fail;refine gI (fun wx=>hU wx w 38 x f v s k/\Below w w wx) ⟨c8,X⟩ ?_;clear c8 X;rintro w1 ⟨h9,f7⟩;have H9:=O h9;have b6:=O f7;have j2:=h9.lt;clear h9 f7;have e7:=zw x f v s k w1 (M.go b6) ((HP.below b6).mono b6.size);unfold jG at e7;have e3:=O e7;clear e7
 cases hv:iI x with
 |false=>
  have hr:wI x=.tuple #[.string {data:=#[]},.int .i64 120]:=by unfold wI;rw[hv];rfl
  have he:err (iI x) 120=.int .i64 120:=by rw[hv];rfl
  have Hr:=O hr;have He:=O he;clear hr he hv
  go_wp2_with(first
   |(refine it H9 rfl (.tmp 1) rfl rfl ?_)
   |(refine e3.mono ?_;rintro e u ⟨rfl,c5⟩;rw[He];have b7:=O c5;clear c5))
  go_ret2;exact⟨by rw[Hr];rfl,I b6 b7⟩
 |true=>
  have hr:wI x=.tuple #[.string (bs (Yw x 10)),oZ]:=by unfold wI;rw[hv];rfl
  have he:err (iI x) 120=.int .i64 0:=by rw[hv];rfl
  have d5:=uH hv
  have g8:∀k,k<=10->(Yw x k).length<=1000000:=fun k hk=>by
   have h1:=Yq x k (10-k);have h2:=c7 hv;rw[Yn]at h2;rw[show k+(10-k)=10 by omega]at h1;omega
  have Hr:=O hr;have He:=O he;have A:=O d5;have a0:=O g8;clear hr he d5 g8 hv c7
  go_upto_region 4 with(first
   |(refine it H9 rfl (.tmp 1) rfl rfl ?_)
   |(refine e3.mono ?_;rintro e u ⟨rfl,c5⟩;rw[He];have b7:=O c5;clear c5))
  have hw:yQ u x f v s k [] w (u.alloc (.cells #[.pointer none,oN] 87)):=by
   have f4:=I b6 b7;have hs:=b7.size;refine⟨((TH u u).alloc (aa _) _|>.block _ (by omega)).trans ((b7.block _ j2).trans H9),VR ⟨aa _,oN,TL u _,World.ownsRow_nil _ _ _ _,by intro e;cases e⟩,gY f4,by omega,by simp⟩
  have Hw:=O hw;clear hw;go_upto_region 5 with fail;refine gI (fun wx=>yQ u x f v s k [] w wx) Hw ?_;clear Hw H9 b7 b6 e3 HP He;rintro w3 r;have e4:Hid (yQ u x f v s k (Yw x 0) w w3):=O r;clear r
  have cc:w3.cell? (J (w.heap.size))=some (.string (bs (VX x.nm))):=by rw[qO];exact VV e4.l9 0
  go_wp2_with fail;clear cc;refine(e4.line ((TH _ _).alloc (aa _) _) [xZ,VX x.nm] (TL _ _) (a0 1 (by decide))).mono ?_;rintro _ w4 ⟨rfl,r,-⟩;have a1:Hid (yQ u x f v s k (Yw x 1) w w4):=O r;clear r e4;have cc:w4.cell? ⟨w.heap.size,1,none⟩=some (.int .i64 x.i9):=VV a1.l9 1;have K:=A.i9
  go_upto_if 32 with fail
  go_cut [6] (fun v6 wx=>v6=.string (bs (DQ x))/\yQ u x f v s k (Yw x 1) w wx)
  case first=>
   by_cases d3:x.i9=0
   .have ho:DQ x=lQ:=by unfold DQ;rw[aq d3]
    have j1:¬(0:Int) <x.i9:=by omega
    have Ho:=O ho;clear ho d3;go_wp2;go_meet;exact⟨by rw[Ho];rfl,a1⟩
   .have ho:DQ x=iz x.i9 6:=by unfold DQ;rw[aj d3]
    have j1:(0:Int) <x.i9:=by omega
    have Ho:=O ho;clear ho d3
    go_wp2_with(refine(js x.i9 6 w4 (by omega) (by omega) (by omega) (Hg.of a1.be HT.glo)).mono ?_;rintro ee wa ⟨rfl,g⟩;have D:=O g;clear g)
    go_meet;exact⟨by rw[Ho],a1.go D⟩
  case rest=>
   obtain⟨rfl,r⟩:=hcut;have b8:=O r;clear r cc K a1;go_wp2_with fail;refine(b8.line ((TH _ _).alloc (aa _) _) [sO,DQ x] (TL _ _) (a0 2 (by decide))).mono ?_;rintro _ w5 ⟨rfl,r,-⟩;have b1:Hid (yQ u x f v s k (Yw x 2) w w5):=O r;clear r b8;have cc:w5.cell? ⟨w.heap.size,2,none⟩=some (.int .i64 x.p9):=VV b1.l9 2;have K:=A.p9
   go_wp2_with(refine(js x.p9 6 w5 (by omega) (by omega) (by omega) (Hg.of b1.be HT.glo)).mono ?_;rintro ee wa ⟨rfl,g⟩;have D:=O g;clear g)
   clear cc K;refine(b1.line (D.alloc D.size _) [vA,iz x.p9 6] (TL _ _) (a0 3 (by decide))).mono ?_;rintro _ w6 ⟨rfl,r,-⟩;have b2:Hid (yQ u x f v s k (Yw x 3) w w6):=O r;clear r b1;clear D;have cc:w6.cell? ⟨w.heap.size,3,none⟩=some (.int .i64 x.stop):=VV b2.l9 3;have K:=A.stop
   go_wp2_with(refine(js x.stop 0 w6 (by omega) (by omega) (by omega) (Hg.of b2.be HT.glo)).mono ?_;rintro ee wa ⟨rfl,g⟩;have D:=O g;clear g)
   clear cc K;refine(b2.line (D.alloc D.size _) [Aa,iz x.stop 0] (TL _ _) (a0 4 (by decide))).mono ?_;rintro _ w7 ⟨rfl,r,-⟩;have b4:Hid (yQ u x f v s k (Yw x 4) w w7):=O r;clear r b2;clear D;have cc:w7.cell? ⟨w.heap.size,4,none⟩=some (.int .i64 x.i4):=VV b4.l9 4;have K:=A.i4
   go_wp2_with(refine(js x.i4 0 w7 (by omega) (by omega) (by omega) (Hg.of b4.be HT.glo)).mono ?_;rintro ee wa ⟨rfl,g⟩;have D:=O g;clear g)
   clear cc K;refine(b4.line (D.alloc D.size _) [qJ,iz x.i4 0] (TL _ _) (a0 5 (by decide))).mono ?_;rintro _ w8 ⟨rfl,r,-⟩;have c9:Hid (yQ u x f v s k (Yw x 5) w w8):=O r;clear r b4;clear D;obtain⟨pa,z⟩:∃pa,f.a=pa:=⟨_,rfl⟩
   have cl:w8.cell? ⟨w.heap.size,5,none⟩=some (.slice pa f.n f.c):=by rw[<- z];exact VV c9.l9 5
   have b5:=O z;clear z
   have c6:x.fs.length/2=f.n:=by have:x.fs.length=f.n*2:=M.fs.1;omega
   have h4:f.n<=f.c:=M.fs.2.1;have h3:f.n<=1000000:=M.fn;have L:=O c6;clear c6;go_wp2
   go_loopw [8,61] (fun v8 F wr=>∃j:Nat,j<=f.n/\F=.int .i64 (j:Int)/\yQ u x f v s k (Yw x 5++((List.range j).map (nE x.fs)).flatten) w wr) (fun _ F _=>f.n-(intOf F).toNat)
   case atStart=>exact⟨0,aA _,rfl,by simpa using c9.out⟩
   case round=>
    obtain⟨j,hj,rfl,m⟩:=hrel;have q:=O m;clear m cl;by_cases a3:j<f.n
    .obtain⟨b,off,g,j0,z0,z1⟩:=((M.fs.ir (N:=w.heap.size) (fun _ h=>h)).below q.be (aa _)).at2 a3
     obtain rfl:=b5.symm.trans g;clear g;have K:=A.fs j (by have:=L.out;omega);have W:nE x.fs j=iF [vB,iz (x.fs.getD (j*2) 0) 6,iz (x.fs.getD (j*2+1) 0) 6]:=rfl;have T:=Yj x 5 (by decide) (by show(((List.range (x.fs.length/2)).map (nE x.fs)).flatten)=_;rw[L]) (Yv (nE x.fs) a3) a0;rw[W,<- aC]at T;have c3:=O W;have c1:=O T;clear W T;generalize x.fs.getD (j*2) 0=q0 at*;generalize x.fs.getD (j*2+1) 0=q1 at*;go_wp2_with fail;have a4:=TL wr (.cells #[q0,q1] 91);have X:=O (show Below wr wr (wr.alloc (.cells #[q0,q1] 91))from(TH _ _).alloc (aa _) _);have e0:=VV a4 0;have e1:=VV a4 1;have a9:=TK a4;clear a4 z0 z1;go_upto_region 16 with fail;have a8:=O (show GW wr from Hg.of q.be HT.glo);refine gS 8 [(0,true),(1,true),(2,true),(4,true),(5,true),(3,false),(6,false),(7,false)] (by kernel_rfl) (by kernel_rfl) ?_
     iterate 5
      refine gU (v:=?_) ?_ ?_;rotate_left
      .intro y E
       have k1:=(E.cell (p:=J (wr.heap.size)) a9).trans e0;have k2:=(E.cell (p:=⟨wr.heap.size,1,none⟩) a9).trans e1;go_simp;with_reducible rfl
      try simp only[V]
     clear e0 e1;refine gP (fun P o=>?_);go_simp;refine(js q0 6 _ (by omega) (by omega) (by omega) (a8.below X.drew)).mono ?_;rintro ee wa ⟨rfl,g⟩;refine o _ _ g ?_;clear o P;have Q:=X.drew.trans (g.mono X.drew.size);(try simp only[V]);refine gP (fun P o=>?_);go_simp;refine(js q1 6 wa (by omega) (by omega) (by omega) (a8.below Q)).mono ?_;rintro ee wb ⟨rfl,R⟩;refine o _ _ R ?_;clear o P;have C:=I Q R;(try simp only[V]);refine gP (fun P o=>?_);go_simp;refine o _ _ ((TH _ _).alloc (aa _) _) ?_;clear o P;(try simp only[V]);refine iu rfl ?_;have a7:=O C;clear Q C g R;go_wp2_with fail;refine(q.line (a7.alloc a7.size _) [vB,iz q0 6,iz q1 6] (TL _ _) c1).mono ?_;rintro _ w9 ⟨rfl,d,-⟩;rw[<- c3,aC,<- qk]at d;have B:=O d;clear d;go_wp2
     go_roundw
     case rel=>exact⟨j+1,by omega,by go_num,B⟩
     case measure=>simp[intOf];omega
    .obtain rfl:j=f.n:=by omega
     have m:=q.out;rw[<- L]at m;have d0:Hid (yQ u x f v s k (Yw x 6) w wr):=O m;clear m q;obtain⟨pa,z⟩:∃pa,v.a=pa:=⟨_,rfl⟩
     have cl:wr.cell? ⟨w.heap.size,6,none⟩=some (.slice pa v.n v.c):=by rw[<- z];exact VV d0.l9 6
     have b5:=O z;clear z
     have c6:x.ws.length/2=v.n:=by have:x.ws.length=v.n*2:=M.ws.1;omega
     have h4:v.n<=v.c:=M.ws.2.1;have h3:v.n<=1000000:=M.wn;have L:=O c6;clear c6;go_wp2
     go_loopw [10,78] (fun v8 F wr=>∃j:Nat,j<=v.n/\F=.int .i64 (j:Int)/\yQ u x f v s k (Yw x 6++((List.range j).map (qK x.ws)).flatten) w wr) (fun _ F _=>v.n-(intOf F).toNat)
     case atStart=>exact⟨0,aA _,rfl,by simpa using d0.out⟩
     case round=>
      obtain⟨j,hj,rfl,m⟩:=hrel;have q:=O m;clear m cl;by_cases a3:j<v.n
      .obtain⟨b,off,g,j0,z0,z1⟩:=((M.ws.ir (N:=w.heap.size) (fun _ h=>h)).below q.be (aa _)).at2 a3
       obtain rfl:=b5.symm.trans g;clear g;have K:=A.ws j (by have:=L.out;omega);have W:qK x.ws j=iF [Ab,iz (x.ws.getD (j*2) 0) 3,iz (x.ws.getD (j*2+1) 0) 0]:=rfl;have T:=Yj x 6 (by decide) (by show(((List.range (x.ws.length/2)).map (qK x.ws)).flatten)=_;rw[L]) (Yv (qK x.ws) a3) a0;rw[W,<- aC]at T;have c3:=O W;have c1:=O T;clear W T;generalize x.ws.getD (j*2) 0=q0 at*;generalize x.ws.getD (j*2+1) 0=q1 at*;go_wp2_with fail;have a4:=TL wr (.cells #[q0,q1] 93);have X:=O (show Below wr wr (wr.alloc (.cells #[q0,q1] 93))from(TH _ _).alloc (aa _) _);have e0:=VV a4 0;have e1:=VV a4 1;have a9:=TK a4;clear a4 z0 z1;go_upto_region 21 with fail;have a8:=O (show GW wr from Hg.of q.be HT.glo);refine gS 8 [(0,true),(1,true),(2,true),(4,true),(5,true),(3,false),(6,false),(7,false)] (by kernel_rfl) (by kernel_rfl) ?_
       iterate 5
        refine gU (v:=?_) ?_ ?_;rotate_left
        .intro y E
         have k1:=(E.cell (p:=J (wr.heap.size)) a9).trans e0;have k2:=(E.cell (p:=⟨wr.heap.size,1,none⟩) a9).trans e1;go_simp;with_reducible rfl
        try simp only[V]
       clear e0 e1;refine gP (fun P o=>?_);go_simp;refine(js q0 3 _ (by omega) (by omega) (by omega) (a8.below X.drew)).mono ?_;rintro ee wa ⟨rfl,g⟩;refine o _ _ g ?_;clear o P;have Q:=X.drew.trans (g.mono X.drew.size);(try simp only[V]);refine gP (fun P o=>?_);go_simp;refine(js q1 0 wa (by omega) (by omega) (by omega) (a8.below Q)).mono ?_;rintro ee wb ⟨rfl,R⟩;refine o _ _ R ?_;clear o P;have C:=I Q R;(try simp only[V]);refine gP (fun P o=>?_);go_simp;refine o _ _ ((TH _ _).alloc (aa _) _) ?_;clear o P;(try simp only[V]);refine iu rfl ?_;have a7:=O C;clear Q C g R;go_wp2_with fail;refine(q.line (a7.alloc a7.size _) [Ab,iz q0 3,iz q1 0] (TL _ _) c1).mono ?_;rintro _ w9 ⟨rfl,d,-⟩;rw[<- c3,aC,<- qk]at d;have B:=O d;clear d;go_wp2
       go_roundw
       case rel=>exact⟨j+1,by omega,by go_num,B⟩
       case measure=>simp[intOf];omega
      .obtain rfl:j=v.n:=by omega
       have m:=q.out;rw[<- L]at m;have d1:Hid (yQ u x f v s k (Yw x 7) w wr):=O m;clear m q;obtain⟨pa,z⟩:∃pa,s.a=pa:=⟨_,rfl⟩
       have cl:wr.cell? ⟨w.heap.size,7,none⟩=some (.slice pa s.n s.c):=by rw[<- z];exact VV d1.l9 7
       have b5:=O z;clear z;have L:=O (show x.l.length=s.n from M.l.1);have h4:s.n<=s.c:=M.l.2.1;have h3:s.n<=1000000:=M.sn;go_wp2
       go_loopw [12,95] (fun v8 F wr=>∃j:Nat,j<=s.n/\F=.int .i64 (j:Int)/\yQ u x f v s k (Yw x 7++((x.l.take j).map oq).flatten) w wr) (fun _ F _=>s.n-(intOf F).toNat)
       case atStart=>exact⟨0,aA _,rfl,by simpa using d1.out⟩
       case round=>
        obtain⟨j,hj,rfl,m⟩:=hrel;have q:=O m;clear m cl;by_cases a3:j<s.n
        .obtain⟨b,off,y,cs,i0,hlt,E,⟨a2,H,c2,rfl,hz,g9,e6,f0⟩,hr⟩:=M.l.at a3
         obtain rfl:=b5.symm.trans i0;clear i0;have Hr:=O (jb (S:=fun b=>b<w.heap.size) hr (gE q.be) hlt);have i6:=O (A.l y (aL E));have t:=Yj x 7 (by decide) rfl (Yf oq x.l E) a0;rw[<- aC,al]at t;have Hy:=O E;have Hz:=O (hz.ir (N:=w.heap.size) (fun _ h=>h));have a5:=O t;clear hr E hz t e6 f0
         go_wp2_with(first
          |(refine lw Hr rfl (.tmp 97) rfl rfl ?_)
          |(refine lC y.s a2 H c2 _ rfl rfl (.tmp 12) (.tmp 98) rfl rfl rfl ?_)
          |(refine gO (Y.new _ y.s a2 H c2) rfl (.tmp 12) rfl rfl ?_))
         have e5:Below wr wr (wr.alloc (.cells (⟨y.s,a2,H,c2⟩:jt) 64)):=(TH _ _).alloc (aa _) _;have b0:=q.go e5;refine(DP y a2 H c2 u u w (Yw x 7++((x.l.take j).map oq).flatten) _ i6 ((Hz.below b0.be (aa _)).mono (cE b0.lo)) g9 b0.b (cE b0.hi) a5 (Hg.of b0.be HT.glo) (HT.below b0.be) (cE b0.lo)).mono ?_;rintro ee w9 h2;obtain rfl:=jz h2;have d:=q.next e5 h2;rw[aC,<- CA oq x.l Hy]at d;have B:=O d;clear d h2 b0 e5;go_wp2
         go_roundw
         case rel=>exact⟨j+1,by omega,by go_num,B⟩
         case measure=>simp[intOf];omega
        .obtain rfl:j=s.n:=by omega
         have m:=q.out;rw[aM (by rw[L];exact aa _)]at m;have d2:Hid (yQ u x f v s k (Yw x 8) w wr):=O m;clear m q;obtain⟨pa,z⟩:∃pa,k.a=pa:=⟨_,rfl⟩
         have cl:wr.cell? ⟨w.heap.size,8,none⟩=some (.slice pa k.n k.c):=by rw[<- z];exact VV d2.l9 8
         have b5:=O z;clear z;have L:=O (show x.cf.length=k.n from M.cf.1);have j6:k.n<=k.c:=M.cf.2.1;have k6:k.n<=1000000:=M.kn;go_wp2
         go_loopw [14,16,17,106] (fun v8 j3 j4 F wr=>∃j:Nat,j<=k.n/\F=.int .i64 (j:Int)/\yQ u x f v s k (Yw x 8++((x.cf.take j).map ot).flatten) w wr) (fun _ _ _ F _=>k.n-(intOf F).toNat)
         case atStart=>exact⟨0,aA _,rfl,by simpa using d2.out⟩
         case round=>
          obtain⟨j,hj,rfl,m⟩:=hrel;have q:=O m;clear m cl;by_cases a3:j<k.n
          .obtain⟨b,off,y,cs,g5,hlt,E,⟨a2,H,c2,rfl,hz,g9,e6,f0⟩,hr⟩:=M.cf.at a3
           obtain rfl:=b5.symm.trans g5;clear g5
           have r0:wr.cell? ⟨b,off+j*2,none⟩=some (.string (bs (VX y.nm))):=by rw[qO];exact(q.be.cell (p:=⟨b,off+j*2,none⟩) hlt).trans (hr 0 _ rfl)
           have r1:wr.cell? ⟨b,off+j*2+1,none⟩=some (.slice a2 H c2):=(q.be.cell (p:=⟨b,off+j*2+1,none⟩) hlt).trans (hr 1 _ rfl)
           have e8:y.zs.length/3=H:=by have h1:y.zs.length=H*3:=hz.1;omega
           have j7:H<=c2:=hz.2.1;have K:=A.cf y (aL E)
           have e9:ot y=iF [mc,VX y.nm]++((List.range H).map (mK y.zs)).flatten:=by rw[<- e8];rfl
           have t:=Yj x 8 (by decide) rfl (Yf ot x.cf E) a0;rw[e9]at t;simp only[<- aC]at t;have f2:=O (Yk t);have i5:=O e9;have Hy:=O E;have Hz:=O (hz.ir (N:=w.heap.size) (fun _ h=>h));have a5:=O t;have i7:=O K;have i3:=O e8;clear hr E hz t e6 f0 e9 K e8;generalize VX y.nm=nmL at*;go_wp2_with fail;have h6:=TL wr (.cells #[.string (bs nmL),Z a2 H c2] 77);have h7:((wr.alloc (.cells #[.string (bs nmL),Z a2 H c2] 77)).alloc (.cells (ji [mc,nmL]).toArray 9)).heap[wr.heap.size]? =some (.cells #[.string (bs nmL),Z a2 H c2] 77 (0,0)):=(iC (by simp)).trans h6;refine(q.line (((TH _ _).alloc (aa _) _).alloc (by simp) _) [mc,nmL] (ku (by simp)) f2).mono ?_;rintro _ w9 ⟨rfl,d,g6⟩;have k5:=q.hi;have h8:w9.heap[wr.heap.size]? =some (.cells #[.string (bs nmL),Z a2 H c2] 77 (0,0)):=g6 _ _ _ _ h7 (by decide) (by omega);have q1:w9.cell? ⟨wr.heap.size,1,none⟩=some (.slice a2 H c2):=VV h8 1;have i8:=O d;clear d g6 h6 h7 h8 r0 r1;go_wp2
           go_loopw [16,17,118] (fun j3 j4 F wi=>∃i:Nat,i<=H/\F=.int .i64 (i:Int)/\yQ u x f v s k (Yw x 8++((x.cf.take j).map ot).flatten++iF [mc,nmL]++((List.range i).map (mK y.zs)).flatten) w wi) (fun _ _ F _=>H-(intOf F).toNat)
           case atStart=>exact⟨0,aA _,rfl,by simpa using i8.out⟩
           case round=>
            obtain⟨i,hi,rfl,i1⟩:=hrel;have c4:=O i1;clear i1 q1;by_cases g4:i<H
            .obtain⟨b3,k0,f5,j5,z0,z1,z2⟩:=(Hz.below c4.be (aa _)).at3 g4
             subst f5;obtain⟨g0,g1,g2⟩:=i7 i (by have:=i3.out;omega);obtain⟨pi,f1⟩:∃pi:Nat,y.zs.getD (i*3+1) 0=(pi:Int)+1:=⟨(y.zs.getD (i*3+1) 0-1).toNat,by omega⟩
             have d7:pi<17:=by omega
             have W:mK y.zs i=iF [lj,iz (y.zs.getD (i*3) 0) 0,kO.getD pi [],iz (y.zs.getD (i*3+2) 0) (oo (pi+1))]:=by
              unfold mK km;rw[f1,show((pi:Int)+1).toNat=pi+1 by omega,cY]
             have T:=Yi (Yv (mK y.zs) g4) a5;rw[W,<- aC]at T;rw[f1]at z1;have d4:=(HT.below (c4.go ((TH wr wr).alloc (aa _) (.cells #[.int .i64 (y.zs.getD (i*3) 0),.int .i64 ((pi:Int)+1),.int .i64 (y.zs.getD (i*3+2) 0)] 74))).be).par pi d7;have f6:=yP (pi+1)
             have j8:(pi:Int) <17:=by omega
             have j9:(0:Int)<=(pi:Int):=by omega
             have c3:=O W;have c1:=O T;have f3:=O d4;clear W T d4 f1 g1;generalize y.zs.getD (i*3) 0=q0 at*;generalize y.zs.getD (i*3+2) 0=q2 at*;generalize kO.getD pi []=nmP at*;generalize oo (pi+1)=dg at*
             go_wp2_with(first
              |(refine qe (.tmp 125) rfl rfl rfl f3 ?_)
              |(refine mp (ku (by simp)) rfl rfl (.tmp 17) (.tmp 126) rfl rfl rfl ?_;intro w5 f8 c0;have g3:w5.heap[wr.heap.size]? =some (.cells #[q0,.int .i64 ((pi:Int)+1),q2] 74 (0,0)):=((c0 (wr+1) _ (aa _) ((TH _ _).alloc (by simp) _)).block _ (by omega)).trans (TL wr _);have b9:=O (c0 wr wr (by omega) (((TH _ _).alloc (aa _) _).alloc (by simp) _));have d8:=O f8;have d9:=O g3;clear f8 c0 g3))
             clear z0 z1 z2;have e0:=VV d9 0;have e2:=VV d9 2;have p0:=VV d8 0;have p1:=VV d8 1;have g7:=TK d9;have a9:=TK d8
             change w5.cell? (J (wr.heap.size))=some (.int .i64 q0)at e0
             change w5.cell? ⟨wr.heap.size,2,none⟩=some (.int .i64 q2)at e2
             change w5.cell? (J (wr+1))=some (.string (bs nmP))at p0
             change w5.cell? ⟨wr.heap.size+1,1,none⟩=some (.int .i64 (dg:Int))at p1
             go_upto_region 36 with fail;have a8:=O (show GW wr from Hg.of c4.be HT.glo);refine gS 12 [(0,true),(1,true),(2,true),(4,true),(5,true),(6,true),(7,true),(8,true),(9,true),(3,false),(10,false),(11,false)] (by kernel_rfl) (by kernel_rfl) ?_
             iterate 9
              refine gU (v:=?_) ?_ ?_;rotate_left
              .intro y E
               have k1:=(E.cell (p:=J (wr.heap.size)) g7).trans e0;have k2:=(E.cell (p:=⟨wr.heap.size,2,none⟩) g7).trans e2;have k3:=(E.cell (p:=J (wr+1)) a9).trans p0;have k4:=(E.cell (p:=⟨wr.heap.size+1,1,none⟩) a9).trans p1;go_simp;with_reducible rfl
              try simp only[V]
             clear e0 e2 p0 p1;refine gP (fun P o=>?_);go_simp;refine(js q0 0 _ (by omega) (by omega) (by omega) (a8.below b9.drew)).mono ?_;rintro ee wa ⟨rfl,g⟩;refine o _ _ g ?_;clear o P;have Q:=b9.drew.trans (g.mono b9.drew.size);(try simp only[V]);refine gP (fun P o=>?_);go_simp;refine(js q2 dg wa (by omega) (by omega) f6 (a8.below Q)).mono ?_;rintro ee wb ⟨rfl,R⟩;refine o _ _ R ?_;clear o P;have C:=I Q R;(try simp only[V]);refine gP (fun P o=>?_);go_simp;refine o _ _ ((TH _ _).alloc (aa _) _) ?_;clear o P;(try simp only[V]);refine iu rfl ?_;have a7:=O C;clear Q C g R;go_wp2_with fail;refine(c4.line (a7.alloc a7.size _) [lj,iz q0 0,nmP,iz q2 dg] (TL _ _) c1).mono ?_;rintro _ k7 ⟨rfl,d,-⟩;rw[<- c3,aC,<- qk]at d;have d6:=O d;clear d;go_wp2
             go_roundw
             case rel=>exact⟨i+1,by omega,by go_num,d6⟩
             case measure=>simp[intOf];omega
            .obtain rfl:i=H:=by omega
             go_wp2
             go_roundw
             case rel=>
              refine⟨j+1,by omega,by go_num,?_⟩;have h5:=c4.out;rw[aC,aC,<- i5,<- aC]at h5;rw[CA ot x.cf Hy,<- aC];exact h5
             case measure=>simp[intOf];omega
          .obtain rfl:j=k.n:=by omega
           have m:=q.out;rw[aM (by rw[L];exact aa _)]at m;have B:Hid (yQ u x f v s k (Yw x 9) w wr):=O m;clear m q;go_wp2_with fail;refine(B.line ((TH _ _).alloc (aa _) _) [Fp] (TL _ _) (a0 10 (by decide))).mono ?_;rintro _ w9 ⟨rfl,r,-⟩;have a6:Hid (yQ u x f v s k (Yw x 10) w w9):=O r;clear r B
           go_wp2_with(refine(FJ u u (Yw x 10) _ a6.b (fun e=>by have h0:=ai List.length e;rw[Yw,al]at h0;have h1:(G x 9).length=4:=rfl;rw[h1]at h0;simp at h0)).mono ?_;rintro ee wz ⟨rfl,f9⟩;have i2:=O f9;clear f9)
           go_ret2;exact⟨by rw[Hr];rfl,a6.be.trans (i2.mono (cE a6.lo))⟩
def ui(t:Int):gM:=⟨⟨1,0,0,0,0,0,0,0,0,0,0,0,t,⟨#[]⟩,0,0,0,0,0,0,0⟩,[]⟩
def tq:gR:=⟨⟨#[70]⟩,0,10000000,0,0,[0,0,0,750000],[550000,1],[ui 10000000,ui 0],[]⟩
def jq:List (List UInt8):=[[108,101,110,115,32,70],[111,98,106,101,99,116,32,105,110,102,105,110,105,116,121],[112,117,112,105,108,32,49,48],[115,116,111,112,32,48],[112,114,105,109,97,114,121,32,48],[102,105,101,108,100,32,48,32,48],[102,105,101,108,100,32,48,32,48,46,55,53],[119,97,118,101,32,53,53,48,32,49],[115,117,114,102,97,99,101,32,115,116,97,110,100,97,114,100],[116,104,105,99,107,32,49,48],[115,117,114,102,97,99,101,32,115,116,97,110,100,97,114,100],[101,110,100]]
def rm(ss:List (List UInt8)):List UInt8:=(ss.map (· ++[10])).flatten
def wJ(i:Nat)(ws:List (List UInt8)):List UInt8:=rm (jq.take i++ws++jq.drop (i+1))
def IN:iI tq=true:=by kernel_rfl
def CC:nO tq=rm jq:=by kernel_rfl
def Ma:nr (rm jq)=⟨tq,0,0⟩:=by kernel_rfl
def XO:List UInt8:=[32,108,101,110,115,32,111,98,106,101,99,116,32,112,117,112,105,108,32,115,116,111,112,32,112,114,105,109,97,114,121,32,102,105,101,108,100,32,119,97,118,101,32,115,117,114,102,97,99,101,32,99,111,110,102,105,103,32,101,110,100,32]
def XP:∀a∈Wo,Lib.contains XO (32::(a++[32]))=decide (a∈kV):=by decide+kernel
def Xp{a:mN}{wa:List mN}(h:∀b∈a,b≠32):(Lib.cut (nN (a::wa)) [32]).1=a:=by
 unfold Lib.cut
 cases wa with
 |nil=>
  rw[show nN [a]=a from rfl,tY 32 a h,aj (by omega)]
 |cons b l=>
  rw[show nN (a::b::l)=a++32::nN (b::l)from rfl,xn 32 a _ h,aq (by omega),aI];exact List.take_left
def XJ(L:List (List mN)):rm (L.map nN)=wL L:=by
 unfold rm wL;rw[dD];rfl
def Wv{α:Type}(L:List α)(k:Nat)(A B:α):List α:=(L.set k B).set (k+1) A
def Xj{α:Type}:∀(L:List α)(k:Nat)(A B:α),L[k]? =some A->L[k+1]? =some B->L=L.take k++A::B::L.drop (k+2)/\Wv L k A B=L.take k++B::A::L.drop (k+2)
 |[],k,A,B,h,_=>by simp at h
 |[x],0,A,B,_,h2=>by simp at h2
 |x::y::l,0,A,B,h,h2=>by
  simp at h h2;subst h h2;exact⟨rfl,rfl⟩
 |x::l,k+1,A,B,h,h2=>by
  simp only[cS]at h h2;obtain⟨a,b⟩:=Xj l k A B h h2;refine⟨?_,?_⟩
  .rw[dI,List.drop_succ_cons,bF,<- a]
  .unfold Wv at*
   rw[aW,aW,b];rfl
def XK(L M:List (List mN))(A B:List mN):(wL (L++A::B::M)).length=(wL (L++B::A::M)).length:=by
 unfold wL;simp only[aT,aN,cG,ce,al];omega
def Xm{x:gR}(h:iI x=true)(hw:S0 x)(k:Nat){a b:mN}{wa wb:List mN}(s:(AI x)[k]? =some (a::wa))(u:(AI x)[k+1]? =some (b::wb))(n:a≠b):
 (wL (Wv (AI x) k (a::wa) (b::wb))).length<=13000/\
 ((a∈kV\/b∈kV\/a=lj\/b=lj)->(nr (wL (Wv (AI x) k (a::wa) (b::wb)))).e≠0\/(nr (wL (Wv (AI x) k (a::wa) (b::wb)))).x≠x)/\
 (¬(a∈kV\/b∈kV\/a=lj\/b=lj)->nr (wL (Wv (AI x) k (a::wa) (b::wb)))=⟨x,0,0⟩):=by
 obtain⟨o,z⟩:=Xj _ _ _ _ s u;have p:=OP h hw;have A:=IX h;have C:=(Wx h _ (aL s)).1;have D:=(Wx h _ (aL u)).1;have w:=UN h;rw[OF]at w;generalize hL:AI x=L at*;rw[z]
 have l:(wL (L.take k++(b::wb)::(a::wa)::L.drop (k+2))).length<=13000:=by
  rw[<- XK,<- o];exact w
 have v:∀ws∈L.take k++(b::wb)::(a::wa)::L.drop (k+2),yu ws:=fun ws d=>by
  refine A ws ?_;rw[o];simp only[bj,aS]at d⊢
  obtain d|d|d|d:=d
  .exact VR d
  .exact VS (VS (VR d))
  .exact VS (VR d)
  .exact VS (VS (VS d))
 have r:=JT _ v;generalize hT:wL (L.take k++(b::wb)::(a::wa)::L.drop (k+2))=T at*;rw[o]at p;refine⟨l,fun g=>?_,fun g=>?_⟩
 .cases i:mq Ae (L.take k++(b::wb)::(a::wa)::L.drop (k+2))with
  |none=>
   obtain⟨j,B⟩:=WG (io [] T) 0 Ae (by rw[<- i,<- r];rfl)
   left
   unfold nr;rw[aj (by omega),B]
   show(5:Int)≠0
   decide
  |some q=>
   have y:=X8 n C D g p i;have m:=vG (io [] T) 0 Ae q (by rw[<- i,<- r];rfl);unfold nr;rw[aj (by omega),m]
   dsimp only
   split
   .left;show(5:Int)≠0;decide
   .split
    .right;exact y
    .left;show(120:Int)≠0;decide
 .have f:a ∉ kV/\b ∉ kV/\a≠lj/\b≠lj:=⟨fun e=>g (VR e),fun e=>g (VS (VR e)),fun e=>g (VS (VS (VR e))),fun e=>g (VS (VS (VS e)))⟩
  obtain⟨q,i,c⟩:=XI n f.1 f.2.1 f.2.2.1 f.2.2.2 p;have:=Mg (t:=T) (q:=q) (by omega) (by rw[r];exact i) c.a (by rw[c.x];exact h);rw[this,c.x]
def wK:gR:={tq with l:=[{ui 10000000 with s:={(ui 10000000).s with t8:=10000000}},ui 0]}
def pU(t:List UInt8)(line:Int)(e:Int):Prop:=nr t=⟨mG,line,e⟩
def Mb:nr (wJ 9 [[116,104,105,99,107,32,49,48],[99,117,114,118,32,48,46,48,49]])=⟨wK,0,0⟩:=by kernel_rfl
def SI:pU (wJ 7 [[119,97,118,101,32,53,53,48,46,48,32,49]]) 8 5:=by unfold pU;kernel_rfl
def SJ:pU (wJ 9 [[116,104,105,99,107,32,49,48],[116,104,105,99,107,32,49,48]]) 11 5:=by unfold pU;kernel_rfl
def SK:pU (wJ 11 []) 12 5:=by unfold pU;kernel_rfl
def SM:pU (wJ 3 [[115,116,111,112,32,49]]) 0 120:=by unfold pU;kernel_rfl
def SN:pU [] 1 5:=by unfold pU;kernel_rfl
structure AB (N:Nat) (w w':World):Prop where
 f:w'.heap[N+1]? =some (.cells #[oZ,oZ,oZ,.int .i64 750000] 91 (0,0))
 v:w'.heap[N+2]? =some (.cells #[.int .i64 550000,.int .i64 1] 93 (0,0))
 s:w'.heap[N+3]? =some (.cells (gX (ui 10000000).s none 0 0++gX (ui 0).s none 0 0).toArray 64 (0,0))
 be:Below N w w'
 sz:w'.heap.size=N+4
def Ov(N:Nat):Value:=jG tq ⟨some ⟨N+1,0,none⟩,2,2⟩ ⟨some ⟨N+2,0,none⟩,1,1⟩ ⟨some ⟨N+3,0,none⟩,2,2⟩ ij
def FU(w:World)(a b c d:Obj):((((w.alloc a).alloc b).alloc c).alloc d).heap[w.heap.size]? =some a/\((((w.alloc a).alloc b).alloc c).alloc d).heap[w.heap.size+1]? =some b/\((((w.alloc a).alloc b).alloc c).alloc d).heap[w.heap.size+2]? =some c/\((((w.alloc a).alloc b).alloc c).alloc d).heap[w.heap.size+3]? =some d/\Below w w ((((w.alloc a).alloc b).alloc c).alloc d)/\((((w.alloc a).alloc b).alloc c).alloc d).heap.size=w.heap.size+4:=by
 have s1:(w.alloc a).heap.size=w.heap.size+1:=by simp
 have s2:((w.alloc a).alloc b).heap.size=w.heap.size+2:=by simp
 have e:(((w.alloc a).alloc b).alloc c).heap.size=w.heap.size+3:=by simp
 exact⟨(iC (by omega)).trans ((iC (by omega)).trans ((iC (by omega)).trans (ku rfl))),(iC (by omega)).trans ((iC (by omega)).trans (ku s1)),(iC (by omega)).trans (ku s2),ku e,gY (gY (gY (gY (TH _ _)))),by simp⟩
def AC(w:World):Calls prog 16 #[] w fun e w'=>e=.returned (Ov w)/\AB w w w':=by
 go_enter func16,ntmps16;go_wp2_with fail;obtain⟨a,b,c,d,f,g⟩:=FU w (.cells (iw tq ⟨some ⟨w.heap.size+1,0,none⟩,2,2⟩ ⟨some ⟨w.heap.size+2,0,none⟩,1,1⟩ ⟨some ⟨w.heap.size+3,0,none⟩,2,2⟩ ij).toArray 38) (.cells #[oZ,oZ,oZ,.int .i64 750000] 91) (.cells #[.int .i64 550000,.int .i64 1] 93) (.cells (gX (ui 10000000).s none 0 0++gX (ui 0).s none 0 0).toArray 64);refine ar (results_cell_row rfl _ _ w 38 _ (0,0) _ rfl a underlying38 rfl Tryz.infoLens) rfl ?_;exact⟨rfl,b,c,d,f,g⟩
def AB.lens{N:Nat}{w w':World}(h:AB N w w'):iP (fun b=>N<=b/\b<w'.heap.size) w' tq ⟨some ⟨N+1,0,none⟩,2,2⟩ ⟨some ⟨N+2,0,none⟩,1,1⟩ ⟨some ⟨N+3,0,none⟩,2,2⟩ ij:=by
 have n:=h.sz
 refine⟨⟨rfl,aa _,fun _=>⟨N+1,0,rfl,⟨by omega,by omega⟩,fun j c=>?_⟩⟩,⟨rfl,aa _,fun _=>⟨N+2,0,rfl,⟨by omega,by omega⟩,fun j c=>?_⟩⟩,
  ⟨rfl,aa _,fun _=>⟨N+3,0,rfl,⟨by omega,by omega⟩,fun i y a=>?_⟩⟩,RR.nil _ _ _ _ _ _,by show(2:Nat)<=_;omega,by show(1:Nat)<=_;omega,by show(2:Nat)<=_;omega,by decide,fun e=>(by cases e),fun e=>(by cases e),by decide⟩
 .have k:j<4:=c
  match j,k with
  |0,_=>exact VV h.f 0
  |1,_=>exact VV h.f 1
  |2,_=>exact VV h.f 2
  |3,_=>exact VV h.f 3
  |j+4,c=>omega
 .have g:j<2:=c
  match j,g with
  |0,_=>exact VV h.v 0
  |1,_=>exact VV h.v 1
  |j+2,c=>omega
 .match i,a with
  |0,a=>
   cases a
   exact⟨_,⟨none,0,0,rfl,IRp.nil _ _ _ _ _,by decide,fun _=>rfl,by decide⟩,fun j v d=>by
    have l:=(TG.1 d).1;have m:j<22:=l;rw[VV h.s,bo]
    show(gX _ none 0 0++gX _ none 0 0)[0+0*22+j]? =_
    rw[show 0+0*22+j=j by omega,aF l];exact d⟩
  |1,a=>
   cases a
   exact⟨_,⟨none,0,0,rfl,IRp.nil _ _ _ _ _,by decide,fun _=>rfl,by decide⟩,fun j v d=>by
    rw[VV h.s,bo]
    show(gX _ none 0 0++gX _ none 0 0)[0+1*22+j]? =_
    rw[aY (by show 22<=_;omega)]
    show(gX _ none 0 0)[0+1*22+j-22]? =_
    rw[show 0+1*22+j-22=j by omega];exact d⟩
  |i+2,a=>cases a
def TN{ops:Array Oper}{b:List Oper}{e:Oper}{d:Act}{w:World}{Q:Exit->Act->World->Prop}{g:Nat}{T:TypeId}{x:gR}{f v s k:iJ}(h:hU w g T x f v s k)(i:Region.wanted e (yielded ops d.tmps)=true)(y:Operand)(m:e.op=.load 38 y)
 (o:d.eval y=.pointer (J g))(l:wpList prog ops Q b (d.put e.dst (.agg #[x.nm,x.i9,x.p9,x.stop,x.i4,Z f.a f.n f.c,Z v.a v.n v.c,Z s.a s.n s.c,Z k.a k.n k.c])) w):wpList prog ops Q (e::b) d w:=
 pV i fun K j=>wp_load_mid 38 y m g 0 o (iw x f v s k) _ h.range underlying38 rfl Tryz.infoLens (j _ _ l)
def Ow(S:Nat->Prop)(w:World):iP S w mG ij ij ij ij:=
 ⟨IRp.nil _ _ _ _ _,IRp.nil _ _ _ _ _,RR.nil _ _ _ _ _ _,RR.nil _ _ _ _ _ _,by decide,by decide,by decide,by decide,fun _=>rfl,fun _=>rfl,by decide⟩
structure KW (w:World):Prop where
 g:GW w
 P:jY w w
 T:TW w w
def TW.go{w w':World}(h:TW w w)(a:Below w w w'):TW w' w':=(h.below a).mono a.size
def KW.go{w w':World}(h:KW w)(a:Below w w w'):KW w':=⟨h.g.below a,h.P.go a,h.T.go a⟩
def CE(t:List UInt8)(x:gR)(h:nr t=⟨x,0,0⟩)(f v s k:iJ)(w:World)(y:iP (fun b=>b<w.heap.size) w x f v s k)(hw:KW w)(L:t.length<=100000):
 Calls prog 18 #[.string (bs t),jG x f v s k] w (iZ w (.bool true)):=by
 have d:=O (show Below w w (w.alloc (.cells (iw x f v s k).toArray 38))from(TH w w).alloc (aa _) _);have c:=O (show hU (w.alloc (.cells (iw x f v s k).toArray 38)) w 38 x f v s k from TL w _);have K:=O y;have i:=O hw;have H:=O h;clear y hw h;unfold jG;go_enter func18,ntmps18;go_upto_region 1 with fail;refine gI (fun B=>hU B w 38 x f v s k/\Below w w B) ⟨c,d⟩ ?_;clear c d;rintro j ⟨D:HQ _,Hb1:HQ _⟩
 have u:Calls prog 13 #[.string (bs t)] j (ye j ⟨x,0,0⟩):=by
  rw[<- H];exact vE t j (i.go Hb1).g (i.go Hb1).T (i.go Hb1).P L
 have F:=O u;clear u H
 go_wp2_with(first
  |(refine F.mono ?_;rintro e l ⟨r,z,s',k',rfl,E:HQ _,Hb2:HQ _⟩;unfold jG)
  |(refine ja x r z s' k' (TL l _) rfl rfl (.tmp 5) (.tmp 11) rfl rfl rfl ?_;intro A (C:HQ _) hw3;have a:Below l l A:=(by rw[hw3];exact ig (aa _) _ _ ((TH _ _).alloc (aa _) _));have n:=O (E.go a);have q:=O (K.go (I (I Hb1 Hb2) a));have m:=O (hU.go (hU.go D Hb2) a);have o:=O (I (I Hb1 Hb2) a);clear hw3 a)
  |(refine TN C rfl (.tmp 5) rfl rfl ?_)
  |(refine TN m rfl (.tmp 3) rfl rfl ?_)
  |(refine(xw x r z s' k' f v s k A n q).mono ?_;rintro e M ⟨rfl,p:HQ _⟩))
 go_ret;exact⟨rfl,I o p⟩
def rX(t:List UInt8)(line a:Int)(h:pU t line a)(w:World)(hw:KW w)(q:t.length<=100000):
 Calls prog 20 #[.string (bs t),line,a] w (iZ w (.bool true)):=by
 have k:Calls prog 13 #[.string (bs t)] w (ye w ⟨mG,line,a⟩):=by
  unfold pU at h;rw[<- h];exact vE t w hw.g hw.T hw.P q
 have p:=O k;clear k hw h;go_enter func20,ntmps20
 go_wp2_with(first
  |(refine p.mono ?_;rintro e c ⟨j,l,s',k',rfl,o:HQ _,Hb2:HQ _⟩;unfold jG)
  |(refine ja mG j l s' k' (TL c _) rfl rfl (.tmp 7) (.tmp 13) rfl rfl rfl ?_;intro m (n:HQ _) hw3;have b:Below c c m:=(by rw[hw3];exact ig (aa _) _ _ ((TH _ _).alloc (aa _) _));have d:=O (o.go b);have f:=O (I Hb2 b);clear hw3 b)
  |(refine TN n rfl (.tmp 7) rfl rfl ?_)
  |(refine(xw mG j l s' k' ij ij ij ij m d (Ow _ _)).mono ?_;rintro e r ⟨rfl,i:HQ _⟩))
 go_ret;exact⟨rfl,I f i⟩
def CD(w:World):Calls prog 17 #[] w fun e w'=>e=.returned (.slice (J (w.heap.size)) 12 12)/\w'=w.alloc (.cells (ji jq).toArray 9):=by
 go_enter func17,ntmps17;go_wp2;go_ret;exact⟨rfl,rfl⟩
def AD:∀(ws:List (List UInt8)),ws≠[]->rm ws=Lib.join ws [10]++[10]
 |[],h=>absurd rfl h
 |[a],_=>by unfold rm;simp[Lib.join]
 |a::b::r,_=>by
  have h:=AD (b::r) (by simp)
  have e:rm (a::b::r)=(a++[10])++rm (b::r):=by unfold rm;simp
  rw[e,h];simp[Lib.join,Lib.joinTail]
def xx(ws:List (List UInt8))(g off c:Nat)(w:World)(h:∀i x,ws[i]? =some x->w.cell? ⟨g,off+i,none⟩=some (.string (bs x)))(r:g<w.heap.size)(t:ws.length<=c)(u:ws.length<=1000000)(p:(rm ws).length<=1000000)(h0:ws≠[]):
 Calls prog 14 #[Z (some ⟨g,off,none⟩) ws.length c] w (iZ w (.string (bs (rm ws)))):=by
 have k:(ws.map bs).map (fun b=>b.data.toList)=ws:=by rw[dD];exact fY (fun x=>rfl) ws
 have d:∀(j:Nat) x,(ws.map bs)[j]? =some x->w.cell? ⟨g,off+j,none⟩=some (.string x):=fun j x l=>by
  rw[aR]at l
  cases hw:ws[j]? with
  |none=>rw[hw]at l;cases l
  |some y=>rw[hw]at l;cases l;exact h j y hw
 have n:=AD ws h0
 have q:(Lib.join ws [10]).length<=1000000:=by rw[n,al]at p;omega
 have key:=Tryz.strings_Join g off c (ws.map bs) {data:=#[10]} w d r (by rw[aU];omega) (by rw[aU];omega) (by rw[k];show(Lib.join ws [10]).length<=_;omega);rw[aU,k]at key
 have a:bs (Lib.join ws [10])++({data:=#[10]}:ByteArray)=bs (rm ws):=by rw[n];exact oQ _ [10]
 have m:=O key;have f:=O a;clear h d k key a n p;go_enter func14,ntmps14;go_wp2_with fail;refine m.mono ?_;rintro e v ⟨rfl,o:HQ _⟩;clear m
 change (Lib.join ws [10]).length<=1000000 at q
 have a:=f.out;clear f
 have s:¬9223372036854775807<(Lib.join ws [10]).length+1:=by omega
 have f:=O a;clear a;go_wp2;go_ret;exact⟨by rw[<- f];rfl,o⟩
def uj{W:World}{N:Nat}{ws:List (List UInt8)}(h:W.heap[N]? =some (.cells (ji ws).toArray 9 (0,0)))(j:Nat)(x:List UInt8)(a:ws[j]? =some x):W.cell? ⟨N,j,none⟩=some (.string (bs x)):=by
 rw[VV h j,bo];unfold ji;rw[aR,a];rfl
def lU{o:Oper}{a:Act}{K:Act->World->Prop}{Q:Exit->Act->World->Prop}{w:World}(s x:Operand)(t:TypeId)(r:o.op=.call {callee:=.builtin .append,args:=#[s,x],argTypes:=#[t,t]})(ht:prog.underlying t=some (.slice 9))
 (base:Nat)(v:Value)(n:Nat)(l ys:List (List UInt8))(hs:a.eval s=v)(hown:w.ownsRow base 9 1 v n (ji l))(sp:Option Addr)(m c:Nat)(hx:a.eval x=.slice sp m c)(hys:ys.length=m)
 (hnews:0<m-> ∃b off,sp=some ⟨b,off,none⟩/\ ∀(j:Nat) y,ys[j]? =some y->w.cell? ⟨b,off+j,none⟩=some (.string (bs y)))(hmn:sp=none->m=0/\c=0)(hnm:n+m<=1000000)(hbase:base<=w.heap.size)
 (h:∀f w',w'.ownsRow base 9 1 f (n+m) (ji (l++ys))->w.grownBy w' v.ownBlock->K (a.put o.dst f) w'):o.wp prog a w K Q:=by
 obtain⟨i,g,k,p,q⟩:=sd Tryz.infoStr
 cases sp with
 |none=>
  obtain⟨rfl,rfl⟩:=hmn rfl;obtain rfl:ys=[]:=aX.1 hys;have e:=run_append_owned_none (P:=prog) (w:=w) base t o.type _ i 1 ht g v n (ji l) hown;unfold Oper.wp execOp;simp only[r,resolve,invoke,builtin,bR,cT,bU,List.map_toArray,aN,bI,hs,hx,e];exact h v w (by simpa using hown) ⟨rfl,rfl,rfl,aa _,fun _ _ _=>rfl⟩
 |some z=>
  obtain⟨f,w',D,h2,h3,_,_⟩:=run_append_own_at (P:=prog) w base t o.type _ i (.string {data:=#[]}) 1 16 ht g k p q (by simp[Value.cells]) (by omega) v n (ji l) hown z m c (ji ys) (by rw[xo,hys,dn]) (fun j u d=>by
   by_cases C:0<m
   .obtain⟨b,off,B,A⟩:=hnews C
    obtain rfl:=aE B;unfold ji at d;rw[aR]at d
    cases hy:ys[j]? with
    |none=>rw[hy]at d;cases d
    |some y=>
     rw[hy]at d;cases d;have:=A j y hy;unfold Addr.add;by_cases h0:j=0
     .subst h0;simpa using this
     .simpa[h0]using this
   .have:ys.length=0:=by omega
    rw[aX.1 this]at d;cases d) (by unfold ji;simp[Value.oneCell']) (by unfold maxLen;omega) (by omega) hbase
  unfold Oper.wp execOp;simp only[r,resolve,invoke,builtin,bR,cT,bU,List.map_toArray,aN,bI,hs,hx,D];rw[<- Du]at h2;exact h f w' h2 h3
def rW(i:Nat)(hi:i<12)(ws:List (List UInt8))(a:Option Addr)(n c:Nat)(w:World)(hw:ua w a n c ws w)(hn:n<=10)(hl:(wJ i ws).length<=1000000)(M:a=none->c=0)(a1:jq.take i++ws++jq.drop (i+1)≠[]):
 Calls prog 19 #[.int .i64 (i:Int),Z a n c] w (iZ w (.string (bs (wJ i ws)))):=by
 have X:=O hw;have Hl:=O hl;have L:=O a1;have a0:=hw.1;clear hw hl a1
 have b1:(i:Int) <12:=by omega
 have b5:IntKind.i64.wrap ((i:Int)+1)=(i:Int)+1:=TM _ (by omega)
 have b3:(i:Int)+1<=12:=by omega
 have b4:(i:Int)<=12:=by omega
 have b2:(0:Int)<=(i:Int)+1:=by omega
 go_enter func19,ntmps19
 go_wp2_with(refine(CD _).mono ?_;rintro e w1 ⟨rfl,rfl⟩)
 by_cases a2:i=11
 .subst a2
  have b0:IntKind.i64.wrap 12=12:=TM _ (by omega);refine kC (S:=fun _=>False) 13 [(1,true),(2,true),(3,true),(5,true),(7,true),(8,true),(9,true),(10,true),(0,false),(4,false),(6,false),(11,false),(12,false)] (by kernel_rfl) (by kernel_rfl) ?_
  iterate 8
   refine gU (v:=?_) ?_ ?_;rotate_left
   .intro y l
    skip;go_simp;with_reducible rfl
   try simp only[V]
  refine gP (fun K f=>?_);go_simp;refine f _ _ (fun x m=>m.elim) ?_;clear f K;(try simp only[V]);have N:(w.alloc (.cells (ji jq).toArray 9)).heap[w.heap.size]? =some (.cells (ji jq).toArray 9 (0,0)):=TL w _;have t:Below w w (w.alloc (.cells (ji jq).toArray 9)):=(TH _ _).alloc (aa _) _
  have W:(w.alloc (.cells (ji jq).toArray 9)).heap.size=w.heap.size+1:=by simp
  have b:=World.ownsRow_made (e:=9) (size:=1) (base:=w.heap.size+1) (w.alloc (.cells (ji jq).toArray 9)) #[] 0 (by omega) (by unfold maxLen;omega) rfl;rw[W]at b;have o:Below (w+1) (w.alloc (.cells (ji jq).toArray 9)) ((w.alloc (.cells (ji jq).toArray 9)).alloc (.cells #[] 9)).drew:=((TH _ _).alloc (by omega) _).drew;have a5:=o.size;refine gP (fun K f=>?_)
  refine lU _ _ _ rfl underlying47 (w+1) _ 0 [] (jq.take 11) rfl b _ 11 12 rfl (by rw[bn];show min 11 12=11;omega) (fun _=>⟨w.heap.size,0,rfl,fun j y l=>by
   rw[aV]
   exact(o.cell (p:=⟨w.heap.size,j,none⟩) (by show w.heap.size<w.heap.size+1;omega)).trans (uj N j y (by
    have hj:=(TG.1 l).1;rw[bn]at hj
    rw[gd (by omega)]at l;exact l))⟩) (by intro e;cases e) (by omega) (by omega) ?_
  intro v2 W2 d C;refine f _ _ (fun x m=>m.elim) ?_;clear f K;(try simp only[V]);have q:=o.grown C (by omega) (fun k e=>(b.lt k e).1);have a6:=q.size;rw[aV,bD]at d;have F:=t.trans (q.mono (by omega));refine gP (fun K f=>?_)
  refine lU _ _ _ rfl underlying47 (w+1) _ 11 (jq.take 11) ws rfl d a n c rfl a0 (fun h0=>by
   obtain⟨R,off,e,hlt,T⟩:=X.2.2 h0
   exact⟨R,off,e,fun j y l=>(F.cell (p:=⟨R,off+j,none⟩) hlt).trans (T j y l)⟩) (fun e=>⟨by have:=X.2.1;have:=M e;omega,M e⟩) (by omega) (by omega) ?_
  intro v3 W3 g D;refine f _ _ (fun x m=>m.elim) ?_;clear f K;(try simp only[V]);have s:=q.grown D (by omega) (fun k e=>(d.lt k e).1);have a7:=s.size;refine gP (fun K f=>?_)
  refine lU _ _ _ rfl underlying47 (w+1) _ (11+n) (jq.take 11++ws) (jq.drop (11+1)) rfl g _ (0) (0) rfl (by rw[eQ];show 12-(11+1)=0;omega) (fun _=>⟨w.heap.size,0,rfl,fun j y l=>by
   rw[cp]at l
   have h1:=(TG.1 l).1;have h2:jq.length=12:=rfl;omega⟩) (by intro e;cases e) (by omega) (by omega) ?_
  intro v4 W4 h E;refine f _ _ (fun x m=>m.elim) ?_;clear f K;(try simp only[V]);have A:=s.grown E (by omega) (fun k e=>(g.lt k e).1);have H:=t.trans (A.mono (by omega));obtain⟨a4,c4,rfl⟩:=kx h;obtain⟨g4,rfl,_,z,u,a3,r⟩:=tZ h (ez.2 L);have key:=xx (jq.take 11++ws++jq.drop (11+1)) g4 0 c4 W4 (fun j y l=>r j (bs y) (by rw[aR,l];rfl)) z (by omega) (by rw[<- u];omega) Hl L;rw[<- u]at key;have Q:=O key;clear key u;refine gP (fun K f=>?_);go_simp;refine Q.mono ?_;rintro e W5 ⟨rfl,B⟩;refine f _ _ (fun x m=>m.elim) ?_;clear f K;(try simp only[V]);refine iu rfl ?_;have P:=O (I H B);clear B H A s q o F t r h g d b N C D E;go_wp2;go_ret;exact⟨by first|rfl|(unfold wJ;rw[aC];rfl),P⟩
 .refine kC (S:=fun _=>False) 13 [(1,true),(2,true),(3,true),(5,true),(7,true),(8,true),(9,true),(10,true),(0,false),(4,false),(6,false),(11,false),(12,false)] (by kernel_rfl) (by kernel_rfl) ?_
  have a8:¬12=i+1:=by omega
  have a9:¬i+1=12:=by omega
  iterate 8
   refine gU (v:=?_) ?_ ?_;rotate_left
   .intro y l
    skip;go_simp;with_reducible rfl
   try simp only[V]
  refine gP (fun K f=>?_);go_simp;refine f _ _ (fun x m=>m.elim) ?_;clear f K;(try simp only[V]);have N:(w.alloc (.cells (ji jq).toArray 9)).heap[w.heap.size]? =some (.cells (ji jq).toArray 9 (0,0)):=TL w _;have t:Below w w (w.alloc (.cells (ji jq).toArray 9)):=(TH _ _).alloc (aa _) _
  have W:(w.alloc (.cells (ji jq).toArray 9)).heap.size=w.heap.size+1:=by simp
  have b:=World.ownsRow_made (e:=9) (size:=1) (base:=w.heap.size+1) (w.alloc (.cells (ji jq).toArray 9)) #[] 0 (by omega) (by unfold maxLen;omega) rfl;rw[W]at b;have o:Below (w+1) (w.alloc (.cells (ji jq).toArray 9)) ((w.alloc (.cells (ji jq).toArray 9)).alloc (.cells #[] 9)).drew:=((TH _ _).alloc (by omega) _).drew;have a5:=o.size;refine gP (fun K f=>?_)
  refine lU _ _ _ rfl underlying47 (w+1) _ 0 [] (jq.take i) rfl b _ i 12 rfl (by rw[bn];show min i 12=i;omega) (fun _=>⟨w.heap.size,0,rfl,fun j y l=>by
   rw[aV]
   exact(o.cell (p:=⟨w.heap.size,j,none⟩) (by show w.heap.size<w.heap.size+1;omega)).trans (uj N j y (by
    have hj:=(TG.1 l).1;rw[bn]at hj
    rw[gd (by omega)]at l;exact l))⟩) (by intro e;cases e) (by omega) (by omega) ?_
  intro v2 W2 d C;refine f _ _ (fun x m=>m.elim) ?_;clear f K;(try simp only[V]);have q:=o.grown C (by omega) (fun k e=>(b.lt k e).1);have a6:=q.size;rw[aV,bD]at d;have F:=t.trans (q.mono (by omega));refine gP (fun K f=>?_)
  refine lU _ _ _ rfl underlying47 (w+1) _ i (jq.take i) ws rfl d a n c rfl a0 (fun h0=>by
   obtain⟨R,off,e,hlt,T⟩:=X.2.2 h0
   exact⟨R,off,e,fun j y l=>(F.cell (p:=⟨R,off+j,none⟩) hlt).trans (T j y l)⟩) (fun e=>⟨by have:=X.2.1;have:=M e;omega,M e⟩) (by omega) (by omega) ?_
  intro v3 W3 g D;refine f _ _ (fun x m=>m.elim) ?_;clear f K;(try simp only[V]);have s:=q.grown D (by omega) (fun k e=>(d.lt k e).1);have a7:=s.size;refine gP (fun K f=>?_)
  refine lU _ _ _ rfl underlying47 (w+1) _ (i+n) (jq.take i++ws) (jq.drop (i+1)) rfl g _ (11-i) (11-i) rfl (by rw[eQ];show 12-(i+1)=11-i;omega) (fun _=>⟨w.heap.size,i+1,rfl,fun j y l=>by
   rw[cp]at l
   exact(s.cell (p:=⟨w.heap.size,i+1+j,none⟩) (by show w.heap.size<w.heap.size+1;omega)).trans (uj N (i+1+j) y l)⟩) (by intro e;cases e) (by omega) (by omega) ?_
  intro v4 W4 h E;refine f _ _ (fun x m=>m.elim) ?_;clear f K;(try simp only[V]);have A:=s.grown E (by omega) (fun k e=>(g.lt k e).1);have H:=t.trans (A.mono (by omega));obtain⟨a4,c4,rfl⟩:=kx h;obtain⟨g4,rfl,_,z,u,a3,r⟩:=tZ h (ez.2 L);have key:=xx (jq.take i++ws++jq.drop (i+1)) g4 0 c4 W4 (fun j y l=>r j (bs y) (by rw[aR,l];rfl)) z (by omega) (by rw[<- u];omega) Hl L;rw[<- u]at key;have Q:=O key;clear key u;refine gP (fun K f=>?_);go_simp;refine Q.mono ?_;rintro e W5 ⟨rfl,B⟩;refine f _ _ (fun x m=>m.elim) ?_;clear f K;(try simp only[V]);refine iu rfl ?_;have P:=O (I H B);clear B H A s q o F t r h g d b N C D E;go_wp2;go_ret;exact⟨by first|rfl|(unfold wJ;rw[aC];rfl),P⟩
def IQ{P:Program}{g:Oper}{e:Act}{y:World}{b:Nat}{T:TypeId}{x:gR}{f v s k:iJ}{d:TypeDesc}(h:hU y b T x f v s k)(l:P.underlying 38=some d)(i:d.isRow=true)(hi:(P.info? 38).map (·.size)=some 9)(z:Operand)(j:g.op=.load 38 z)
 (m:e.eval z=.pointer (J b)):(execOp e.eval g).run P y=.ok (.value (.agg #[x.nm,x.i9,x.p9,x.stop,x.i4,Z f.a f.n f.c,Z v.a v.n v.c,Z s.a s.n s.c,Z k.a k.n k.c])) y:=by
 unfold execOp;simp only[j,m,Instr.loadAt,Instr.sureAddr,bR,cT,bU,run_loadVar_mid y b 0 38 (iw x f v s k) d h.range l i hi];rfl
def Br{ops:Array Oper}{Q:Exit->Act->World->Prop}{N i:Nat}{j:List Nat}{fs:List (Nat×Tmp×Obj)}{C:Nat->Prop}{d:List (Nat×Bool)}{g:Oper}{e:Act}{w:World}(hi:ops.toList[i]? =some g)(l:j.contains i=false)
 (hw:Region.wanted g (yielded ops e.tmps)=true){b:Nat}{T:TypeId}{x:gR}{f v s k:iJ}(h:∀y,Below w w y->hU y b T x f v s k)(z:Operand)(o:g.op=.load 38 z)
 (p:e.eval z=.pointer (J b))(m:Bx prog ops Q N j fs C d (e.put g.dst (.agg #[x.nm,x.i9,x.p9,x.stop,x.i4,Z f.a f.n f.c,Z v.a v.n v.c,Z s.a s.n s.c,Z k.a k.n k.c])) w):Bx prog ops Q N j fs C ((i,true)::d) e w:=
 gZ (fun y q=>IQ (h y q) underlying38 rfl Tryz.infoLens z o p) m hi l hw
def IS:wI tq=.tuple #[.string (bs (rm jq)),oZ]:=by
 unfold wI;rw[IN,aq rfl,aq rfl,CC]
def IT(N:Nat)(w0 w:World)(h:AB N w0 w)(hw:KW w):Calls prog 7 #[Ov N] w (iZ w (.tuple #[.string (bs (rm jq)),oZ])):=by
 rw[<- IS];exact CB tq _ _ _ _ w (h.lens.kept (gN.refl _ _) (fun b a=>a.2)) hw.g hw.P hw.T (fun _=>by rw[CC];exact bx (by kernel_rfl))
def Bs{N:Nat}{w w':World}(h:Below w w w'):gN (fun b=>N<=b/\b<w.heap.size) w w':=fun b a=>h.block b a.2
def yR{W:World}{N:Nat}{ws:List (List UInt8)}(h:W.heap[N]? =some (.cells (ji ws).toArray 9 (0,0))):ua W (J N) ws.length ws.length ws W:=
 ⟨rfl,aa _,fun _=>⟨N,0,rfl,TK h,fun i x a=>by rw[aV];exact uj h i x a⟩⟩
def IU{N:Nat}{w w':World}(h:AB N w w'){W:World}(g:Below w' w' W):iP (fun b=>b<(W.setCell ⟨N+3,1,none⟩ (.int .i64 10000000)).heap.size) (W.setCell ⟨N+3,1,none⟩ (.int .i64 10000000)) wK ⟨some ⟨N+1,0,none⟩,2,2⟩ ⟨some ⟨N+2,0,none⟩,1,1⟩ ⟨some ⟨N+3,0,none⟩,2,2⟩ ij:=by
 have r:=h.sz;have q:=g.size
 have p:(W.setCell ⟨N+3,1,none⟩ (.int .i64 10000000)).heap.size=W.heap.size:=by simp
 have hf:=(iS (u:=.int .i64 10000000) (j:=1) (show N+1≠N+3 by omega)).trans ((g.block (N+1) (by omega)).trans h.f);have a:=(iS (u:=.int .i64 10000000) (j:=1) (show N+2≠N+3 by omega)).trans ((g.block (N+2) (by omega)).trans h.v);have l:=gG ((g.block (N+3) (by omega)).trans h.s) 1 (.int .i64 10000000);have k:(W.setCell ⟨N+3,1,none⟩ (.int .i64 10000000)).heap[N+3]? =some (.cells (gX {(ui 10000000).s with t8:=10000000} none 0 0++gX (ui 0).s none 0 0).toArray 64 (0,0)):=l
 refine⟨⟨rfl,aa _,fun _=>⟨N+1,0,rfl,by omega,fun j d=>?_⟩⟩,⟨rfl,aa _,fun _=>⟨N+2,0,rfl,by omega,fun j d=>?_⟩⟩,
  ⟨rfl,aa _,fun _=>⟨N+3,0,rfl,by omega,fun i y c=>?_⟩⟩,RR.nil _ _ _ _ _ _,by show(2:Nat)<=_;omega,by show(1:Nat)<=_;omega,by show(2:Nat)<=_;omega,by decide,fun e=>(by cases e),fun e=>(by cases e),by decide⟩
 .have n:j<4:=d
  match j,n with
  |0,_=>exact VV hf 0
  |1,_=>exact VV hf 1
  |2,_=>exact VV hf 2
  |3,_=>exact VV hf 3
  |j+4,d=>omega
 .have m:j<2:=d
  match j,m with
  |0,_=>exact VV a 0
  |1,_=>exact VV a 1
  |j+2,d=>omega
 .match i,c with
  |0,c=>
   cases c
   exact⟨_,⟨none,0,0,rfl,IRp.nil _ _ _ _ _,by decide,fun _=>rfl,by decide⟩,fun j v a=>by
    have o:=(TG.1 a).1;rw[VV k,bo]
    show(gX _ none 0 0++gX _ none 0 0)[0+0*22+j]? =_
    rw[show 0+0*22+j=j by omega,aF o];exact a⟩
  |1,c=>
   cases c
   exact⟨_,⟨none,0,0,rfl,IRp.nil _ _ _ _ _,by decide,fun _=>rfl,by decide⟩,fun j v a=>by
    rw[VV k,bo]
    show(gX _ none 0 0++gX _ none 0 0)[0+1*22+j]? =_
    rw[aY (by show 22<=_;omega)]
    show(gX _ none 0 0)[0+1*22+j-22]? =_
    rw[show 0+1*22+j-22=j by omega];exact a⟩
  |i+2,c=>cases c
def Mc(w:World)(hw:KW w):Calls prog 4 #[] w (iZ w (.bool true)):=by
 have Hw:=O hw;clear hw;go_enter func4,ntmps4;go_wp2_with fail;refine(AC w).mono ?_;rintro e w1 ⟨rfl,Hf:HQ _⟩;have Ht:=O (IT w w w1 Hf (Hw.go Hf.be));generalize Ov w=Vq0 at*;obtain⟨T0,a0:HQ _⟩:∃T0,rm jq=T0:=⟨_,rfl⟩;rw[a0]at Ht
 go_wp2_with(refine Ht.mono ?_;rintro e d ⟨rfl,f0:HQ _⟩)
 refine(AC d).mono ?_;rintro e w3 ⟨rfl,g:HQ _⟩
 go_upto_region 3 with(refine ja tq ⟨some ⟨d.heap.size+1,0,none⟩,2,2⟩ ⟨some ⟨d.heap.size+2,0,none⟩,1,1⟩ ⟨some ⟨d.heap.size+3,0,none⟩,2,2⟩ ij (TL w3 _) rfl rfl (.tmp 3) (.tmp 11) rfl rfl rfl ?_;intro H (H4:HQ _) hw4;have i:Below w3 w3 H:=(by rw[hw4];exact ig (aa _) _ _ ((TH _ _).alloc (aa _) _));have a5:=O i;clear i hw4)
 have g8:=g.sz;have c7:H.cell? ⟨w3.heap.size,7,none⟩=some (.slice (J (d+3)) 2 2):=VV H4 7;have hS:=(a5.block (d+3) (by omega)).trans g.s;have d1:H.cell? ⟨d.heap.size+3,1,none⟩=some (.int .i64 0):=VV hS 1;have g1:H.frozen? ⟨d.heap.size+3,1,none⟩=false:=gD hS 1;have HS:=O hS;clear hS;have i2:=O g8;clear g8;go_wp2_with fail;have hL:=IU g a5;have hB:hU (H.setCell ⟨d.heap.size+3,1,none⟩ (.int .i64 10000000)) w3 38 wK ⟨some ⟨d.heap.size+1,0,none⟩,2,2⟩ ⟨some ⟨d.heap.size+2,0,none⟩,1,1⟩ ⟨some ⟨d.heap.size+3,0,none⟩,2,2⟩ ij:=(iS (by have:=i2.out;omega)).trans H4
 have c9:Below w w (H.setCell ⟨d.heap.size+3,1,none⟩ (.int .i64 10000000)):=by
  have h1:=Hf.be;have h2:=I h1 f0;have h3:=I h2 g.be;exact kZ (I h3 a5) (by have:=h2.size;omega)
 clear c7 d1 g1;generalize H.setCell ⟨d.heap.size+3,1,none⟩ (.int .i64 10000000)=W5 at*;have HL:=O hL;have c:=O hB;have f1:=O c9;have e8:=O (Hw.go c9);clear hL hB c9 HS a5 H4 g f0 Hf Ht;refine(CD W5).mono ?_;rintro e w6 ⟨rfl,rfl⟩;have d3:=xx jq W5 0 12 (W5.alloc (.cells (ji jq).toArray 9)) (fun j x hx=>by rw[aV];exact uj (TL W5 _) j x hx) (by simp) (by decide) (by decide) (bx (by kernel_rfl)) (by decide);rw[a0]at d3;have a3:=O (show Below W5 W5 (W5.alloc (.cells (ji jq).toArray 9))from(TH _ _).alloc (aa _) _);have f4:=O d3;clear d3
 go_wp2_with(refine f4.mono ?_;rintro e w7 ⟨rfl,f5⟩;have E:=O (I a3 f5);clear f5)
 have g6:nr T0=⟨tq,0,0⟩:=by rw[<- a0];exact Ma
 have b2:T0.length<=100000:=by rw[<- a0];exact bx (by kernel_rfl)
 have e9:=O (HL.go E);have e7:=O (c.go E);have Q:=O (e8.go E);have f2:=O g6;have a1:=O b2;have a6:=O (I f1 E);clear g6 b2 HL c e8 E a3 f4 f1 Hw;refine ic 18 [] [] [(0,true),(1,true),(2,true),(3,true),(4,true),(5,true),(6,true),(7,true),(8,true),(9,false),(10,false),(11,true),(12,true),(15,true),(13,false),(14,false),(16,false),(17,true)] (by kernel_rfl) (by kernel_rfl) ⟨by simp,by simp,fun _ h=>by cases h⟩ (fun _ _ _ _ _ h=>h) (fun _ _ o _ _ h=>by cases o<;>exact h) ?_
 iterate 9
  refine gZ (v:=?_) ?_ ?_;rotate_left
  .intro y hy
   skip;go_simp;with_reducible rfl
  try simp only[V]
 refine kH rfl (by rfl) (fun x1 g9 K f=>?_);go_simp;refine(AC x1).mono ?_;rintro e x2 ⟨rfl,hf⟩;refine f _ _ hf.be ?_;clear f K;have c2:Below w7 w7 x1:=gJ (k:=1) g9;have d4:=I c2 hf.be;(try simp only[V]);refine kH rfl (by rfl) (fun x3 F K f=>?_);go_simp;refine(CE T0 tq f2 _ _ _ _ x3 (hf.lens.kept (Bs F) (fun b hb=>ab hb.2 F.size)) (Q.go (I d4 F)) a1).mono ?_;rintro e x4 ⟨rfl,i⟩;refine f _ _ i ?_;clear f K;have d5:=I (I d4 F) i;clear hf g9 c2 d4 F i;try simp only[V]
 iterate 2
  refine gZ (v:=?_) ?_ ?_;rotate_left
  .intro y hy
   skip;go_simp;with_reducible rfl
  try simp only[V]
 refine Br rfl rfl (by rfl) (fun y hy=>e7.go (I d5 hy)) (.tmp 3) rfl rfl ?_;(try simp only[V]);refine kH rfl (by rfl) (fun x5 h0 K f=>?_);go_simp;refine f _ _ ((TH _ _).alloc (aa _) _) ?_;clear f K;have d2:(x5.alloc (.cells (ji [[116,104,105,99,107,32,49,48],[99,117,114,118,32,48,46,48,49]]).toArray 9)).heap[x5.heap.size]? =some (.cells (ji [[116,104,105,99,107,32,49,48],[99,117,114,118,32,48,46,48,49]]).toArray 9 (0,0)):=TL x5 _;have h4:Below w7 w7 (x5.alloc (.cells (ji [[116,104,105,99,107,32,49,48],[99,117,114,118,32,48,46,48,49]]).toArray 9)):=gY (I d5 h0);(try simp only[V]);refine kH rfl (by rfl) (fun x7 d6 K f=>?_);go_simp;have g5:=(d6.block _ (TK d2)).trans d2;refine(rW 9 (by omega) [[116,104,105,99,107,32,49,48],[99,117,114,118,32,48,46,48,49]] _ 2 2 x7 (yR g5) (by omega) (bx (by kernel_rfl)) (by intro e;cases e) (by decide)).mono ?_;rintro e x8 ⟨rfl,d0⟩;refine f _ _ d0 ?_;clear f K;have c3:=I (I h4 d6) d0;clear d2 g5 h4 d6 d0 h0 d5;obtain⟨T1,b3⟩:∃T1,wJ 9 [[116,104,105,99,107,32,49,48],[99,117,114,118,32,48,46,48,49]]=T1:=⟨_,rfl⟩
 have g7:nr T1=⟨wK,0,0⟩:=by rw[<- b3];exact Mb
 have b4:T1.length<=100000:=by rw[<- b3];exact bx (by kernel_rfl)
 rw[b3];have f3:=O g7;have a2:=O b4;clear g7 b4 b3;(try simp only[V]);refine kH rfl (by rfl) (fun x9 c4 K f=>?_);go_simp;refine(CE T1 wK f3 ⟨some ⟨d.heap.size+1,0,none⟩,2,2⟩ ⟨some ⟨d.heap.size+2,0,none⟩,1,1⟩ ⟨some ⟨d.heap.size+3,0,none⟩,2,2⟩ ij x9 (e9.go (I c3 c4)) (Q.go (I c3 c4)) a2).mono ?_;rintro e i9 ⟨rfl,m⟩;refine f _ _ m ?_;clear f K;have C:=I (I c3 c4) m;clear c3 c4 m;try simp only[V]
 iterate 1
  refine gZ (v:=?_) ?_ ?_;rotate_left
  .intro y hy
   skip;go_simp;with_reducible rfl
  try simp only[V]
 refine jV (l:=[_]) rfl (fun c5 D=>?_);have a7:=O (Q.go (I C D));have a4:=O (I a6 (I C D));clear C D e9 e7 Q a6 f2 a1 f3 a2;go_wp2_with fail;have a:=a7;have c:=a4;clear a7 a4;have b5:Below c5 c5 (c5.alloc (.cells (ji [[119,97,118,101,32,53,53,48,46,48,32,49]]).toArray 9)):=(TH _ _).alloc (aa _) _;refine(rW 7 (by omega) [[119,97,118,101,32,53,53,48,46,48,32,49]] _ 1 1 _ (yR (TL c5 _)) (by omega) (bx (by kernel_rfl)) (by intro e;cases e) (by decide)).mono ?_;rintro e i3 ⟨rfl,b8⟩;have n:=I b5 b8;obtain⟨P1,a8⟩:∃T,wJ 7 [[119,97,118,101,32,53,53,48,46,48,32,49]]=T:=⟨_,rfl⟩
 have f6:pU P1 8 5:=by rw[<- a8];exact SI
 have g0:P1.length<=100000:=by rw[<- a8];exact bx (by kernel_rfl)
 rw[a8];have h5:=O f6;have h8:=O g0;have R:=O (a.go n);have L:=O (I c n);clear f6 g0 a8 n b8 a c b5;have a:=R;have c:=L;go_wp2_with fail;refine(rX P1 8 5 h5 i3 a h8).mono ?_;rintro e c6 ⟨rfl,t⟩;have e2:=O (R.go t);have d7:=O (I L t);clear t;clear a c;have a:=e2;have c:=d7;go_wp2_with fail;have b6:Below c6 c6 (c6.alloc (.cells (ji [[116,104,105,99,107,32,49,48],[116,104,105,99,107,32,49,48]]).toArray 9)):=(TH _ _).alloc (aa _) _;refine(rW 9 (by omega) [[116,104,105,99,107,32,49,48],[116,104,105,99,107,32,49,48]] _ 2 2 _ (yR (TL c6 _)) (by omega) (bx (by kernel_rfl)) (by intro e;cases e) (by decide)).mono ?_;rintro e i4 ⟨rfl,b9⟩;have p:=I b6 b9;obtain⟨P2,a9⟩:∃T,wJ 9 [[116,104,105,99,107,32,49,48],[116,104,105,99,107,32,49,48]]=T:=⟨_,rfl⟩
 have f7:pU P2 11 5:=by rw[<- a9];exact SJ
 have g2:P2.length<=100000:=by rw[<- a9];exact bx (by kernel_rfl)
 rw[a9];have g:=O f7;have h9:=O g2;have S:=O (a.go p);have M:=O (I c p);clear f7 g2 a9 p b9 a c b6;have a:=S;have c:=M;go_wp2_with fail;refine(rX P2 11 5 g i4 a h9).mono ?_;rintro e i7 ⟨rfl,u⟩;have e3:=O (S.go u);have d8:=O (I M u);clear u;clear a c;have a:=e3;have c:=d8;go_wp2_with fail;refine(rW 11 (by omega) [] none 0 0 i7 ⟨rfl,aa _,fun h=>absurd h (by omega)⟩ (by omega) (bx (by kernel_rfl)) (fun _=>rfl) (by decide)).mono ?_;rintro e i5 ⟨rfl,c0⟩;have q:=c0;obtain⟨P3,b0⟩:∃T,wJ 11 []=T:=⟨_,rfl⟩
 have f8:pU P3 12 5:=by rw[<- b0];exact SK
 have g3:P3.length<=100000:=by rw[<- b0];exact bx (by kernel_rfl)
 rw[b0];have h6:=O f8;have i0:=O g3;have W:=O (a.go q);have N:=O (I c q);clear f8 g3 b0 q c0 a c;have a:=W;have c:=N;go_wp2_with fail;refine(rX P3 12 5 h6 i5 a i0).mono ?_;rintro e i8 ⟨rfl,z⟩;have e4:=O (W.go z);have d9:=O (I N z);clear z;clear a c;have a:=e4;have c:=d9;go_wp2_with fail;refine(rX [] 1 5 SN i8 a (by decide)).mono ?_;rintro e c8 ⟨rfl,A⟩;have e5:=O (a.go A);have e0:=O (I c A);clear a c A;have a:=e5;have c:=e0;go_wp2_with fail;have b7:Below c8 c8 (c8.alloc (.cells (ji [[115,116,111,112,32,49]]).toArray 9)):=(TH _ _).alloc (aa _) _;refine(rW 3 (by omega) [[115,116,111,112,32,49]] _ 1 1 _ (yR (TL c8 _)) (by omega) (bx (by kernel_rfl)) (by intro e;cases e) (by decide)).mono ?_;rintro e i6 ⟨rfl,c1⟩;have r:=I b7 c1;obtain⟨P5,b1⟩:∃T,wJ 3 [[115,116,111,112,32,49]]=T:=⟨_,rfl⟩
 have f9:pU P5 0 120:=by rw[<- b1];exact SM
 have g4:P5.length<=100000:=by rw[<- b1];exact bx (by kernel_rfl)
 rw[b1];have h7:=O f9;have i1:=O g4;have X:=O (a.go r);have P:=O (I c r);clear f9 g4 b1 r c1 a c b7;have a:=X;have c:=P;go_wp2_with fail;refine(rX P5 0 120 h7 i6 a i1).mono ?_;rintro e j0 ⟨rfl,B⟩;have e6:=O (X.go B);have e1:=O (I P B);clear B;clear a c;have a:=e6;have c:=e1;go_wp2;go_ret;exact⟨rfl,c⟩
