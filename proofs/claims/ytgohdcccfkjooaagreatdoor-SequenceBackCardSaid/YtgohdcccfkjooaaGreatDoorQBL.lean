import Derived.Test.YtgohdcccfkjooaaGreatDoorQBK
namespace Go.Proofs.YtgohdcccfkjooaaGreatDoor
set_option linter.all false
set_option maxRecDepth 100000
set_option maxHeartbeats 1600000
open Go.Proofs.Tryz Go.RowKit
def mh(r:jL)(a:List UInt8)(ws:List (List UInt8)):Option jL:=(ou r.x.cf fun c=>sP c (a::ws)).map fun cf=>⟨{r.x with cf:=cf},8,r.seen⟩
def FS{r a ws}(h:ws.length≠3):mh r a ws=none:=by
 have b:∀c,sP c (a::ws)=none:=fun c=>by
  match ws,h with
  |[],_=>rfl
  |[_],_=>rfl
  |[_,_],_=>rfl
  |[_,_,_],h=>simp at h
  |_::_::_::_::_,_=>rfl
 unfold mh ou
 cases r.x.cf.getLast? with
 |none=>rfl
 |some y=>simp[b]
def pp{r:jL}{l0:List jd}{y:jd}(c:r.x.cf=l0++[y])(b a p v:List UInt8):mh r b [a,p,v]=match rD p with
 |none=>none
 |some q=>match lp a 0 with
  |none=>none
  |some i=>(lp v (oo q)).map fun n=>⟨{r.x with cf:=l0++[⟨y.nm,y.zs++[i,(q:Int),n]⟩]},8,r.seen⟩:=by
 unfold mh;rw[c,qf];unfold sP;simp only
 cases rD p with
 |none=>rfl
 |some q=>
  cases lp a 0 with
  |none=>rfl
  |some i=>cases hv:lp v (oo q) <;>simp[hv]
def FT{B g cc A n c N}{D:Nat->Prop}{r W}{L:List UInt8}{ws}(h:vM B g 8 cc D r W)(hat:r.at_=8)(hw:ua W (J A) n c (L::ws) W)(hl:∀s∈L::ws,s.length<=100000)(hn:ws.length<=100000)(hc:cc<=100001)(hB:B<=W.heap.size)(hg:GW W)(hT:TW N W)(e6:N<=B):
 Calls prog 92 #[U g,Z (J A) n c] W (iE B g 8 cc D (mh r L ws) W):=by
 obtain⟨f,v,s,k,m,hA,hL⟩:=h;have g5:=hL.gB
 obtain ⟨h7,_⟩|⟨_,l0,y,css,q,H,cap,hS⟩|⟨h7,_⟩:=hL.cf.2
 .omega
 .have e1:=hS.ep
  subst e1;have c8:W.cell? ⟨g,8,none⟩=some (.slice (J H) (l0.length+1) cap):=(hA.cell 8).1;have e9:g<W.heap.size:=TK hA
  have f5:l0.length+1<=cap:=by
   obtain ⟨e,_⟩|⟨g',f2,g0,e,_,_,h3,_⟩:=hS.row.2
   .cases e
   .cases e;exact h3
  have g6:l0.length<=100001:=by have:=hL.cf.1;have:l0.length+1<=cc:=this;omega
  have f0:n=ws.length+1:=by have:=hw.1;simp at this;omega
  subst f0;have g4:ws.length+1<=c:=hw.2.1
  have c5:A<W.heap.size:=by
   obtain⟨g',off,e,h3,_⟩:=hw.2.2 (by omega);cases e;exact h3
  have c7:∀i x,(L::ws)[i]? =some x->W.cell? ⟨A,i,none⟩=some (.string (bs x)):=fun i x hx=>by
   obtain⟨g',off,e,_,h3⟩:=hw.2.2 (by omega);cases e;have:=h3 i x hx;rwa[aV]at this
  have HA:=O hA;have HL:=O hL;have HS:=O hS;have Hl:=O hl;have Hg:=O hg;have HT:=O hT;have Hn:=O hn;have d5:=O hat;have X:=O c7;clear hA hL hS hl hg hT hw hn hat c7
  go_enter func92,ntmps92
  by_cases h1:ws.length=3
  .obtain⟨a,p,F,rfl⟩:∃a p F,ws=[a,p,F]:=by
    match ws,h1 with
    |[x,y,z],_=>exact⟨x,y,z,rfl⟩
   have e2:=X 2 p rfl
   cases hfi:kO.findIdx? (· ==p)with
   |none=>
    have e7:tk p= -1:=by unfold tk;rw[hfi];rfl
    have c6:mh r L [a,p,F]=none:=by rw[pp HS.el,yo hfi]
    have e0:=O c6;have f8:=O hfi;clear c6 hfi
    go_wp2_with fail
    refine(kW _).mono ?_;rintro e w3 ⟨rfl,rfl⟩
    go_wp2_with(refine(uc p N _ HT (by omega)).mono ?_;rintro e l ⟨rfl,R⟩;have b:=O R;clear R)
    refine(lm _).mono ?_;rintro e w8 ⟨rfl,rfl⟩;have t:iE B g 8 cc D (mh r L [a,p,F]) W iX _:=iE.bad e0 b (by omega);unfold iX at t⊢;have d8:=O t;clear t
    go_wp2_with fail
    exact⟨rfl,d8⟩
   |some i=>
    have e7:tk p=(i:Int):=by unfold tk;rw[hfi];rfl
    have b3:i<17:=qN hfi;have M:=O (ug hfi);clear hfi
    go_wp2_with fail
    refine(kW _).mono ?_;rintro e w3 ⟨rfl,rfl⟩
    go_wp2_with(refine(uc p N _ HT (by omega)).mono ?_;rintro e l ⟨rfl,R⟩;have b:=O R;clear R)
    refine(kW _).mono ?_;rintro e w8 ⟨rfl,rfl⟩;clear e2;have g7:=b.size;have b9:l.cell? ⟨g,8,none⟩=some (.slice (J H) (l0.length+1) cap):=(b.cell (p:=⟨g,8,none⟩) e9).trans c8
    have b4:g<l.heap.size:=by omega
    clear c8
    go_upto_region 3 with fail
    have a5:IntKind.i64.wrap (l0.length:Int)=(l0.length:Int):=TM _ (by omega);refine gS 13 [(0,true),(1,true),(2,true),(3,true),(4,true),(5,true),(6,true),(7,true),(8,true),(9,true),(10,true),(11,true),(12,true)] (by kernel_rfl) (by kernel_rfl) ?_
    iterate 11
     refine gU (v:=?_) rfl (fun _ _ _ h=>h) (by rfl) ?_ ?_;rotate_left
     .intro y T
      have k1:=(T.cell (p:=⟨g,8,none⟩) b4).trans b9;go_simp
      with_reducible rfl
     try simp only[V]
    iterate 2
     refine gU (v:=?_) rfl (fun _ _ _ h=>h) (by rfl) ?_ ?_;rotate_left
     .intro y T
      go_simp
      try rw[a5]
      try rw[aq (show(l0.length:Int) <(l0.length:Int)+1 by omega)]
      try with_reducible rfl
     try simp only[V]
    refine iu rfl ?_;clear b9
    go_upto_region 4 with fail
    have a0:=HS.go b;have f4:=a0.bbB
    have f6:A<l.heap.size:=by omega
    have c0:l.cell? ⟨A,1,none⟩=some (.string (bs a)):=(b.cell (p:=⟨A,1,none⟩) c5).trans (X 1 a rfl);have c1:l.cell? ⟨A,3,none⟩=some (.string (bs F)):=(b.cell (p:=⟨A,3,none⟩) c5).trans (X 3 F rfl);have c4:=HT.below (b.mono (by omega));have g3:0<l.heap.size:=ab (ab (show 0<14 by decide) HT.glo) (by omega);have p1:l.cell? ⟨0,i*3+1,none⟩=some (.int .i64 (oo (i+1):Int)):=c4.par i b3 1 _ rfl;obtain⟨cg,fg⟩:=a0.cell (show 1<2 by omega)
    change l.cell? ⟨H,l0.length*2+1,none⟩=some (.slice q.a q.n q.c)at cg
    have b2:=yP (i+1);generalize hdg:oo (i+1)=dg at*;have b7:=O hdg;have d4:=O a0;have b8:=O (Hg.below b);clear hdg a0 c4;obtain⟨qa,qn,qc⟩:=q
    change l.cell? ⟨H,l0.length*2+1,none⟩=some (.slice qa qn qc)at cg
    have d0:(i:Int) <17:=by omega
    have g8:IntKind.i64.wrap ((i:Int)+1)=(i:Int)+1:=TM _ (by omega);refine kC (S:=fun x=>x=H\/x=A\/x=0) 22 [(0,true),(1,true),(2,true),(3,true),(4,true),(5,true),(6,true),(7,true),(9,true),(10,true),(11,true),(12,true),(13,true),(14,true),(15,true),(16,true),(17,true),(8,false),(18,false),(19,true),(20,false),(21,false)] (by kernel_rfl) (by kernel_rfl) ?_
    iterate 17
     refine kQ (v:=?_) rfl (fun _ _ _ h=>h) (by rfl) ?_ ?_;rotate_left
     .intro y T
      have k1:=(T.cell (p:=⟨H,l0.length*2+1,none⟩) (Or.inl rfl)).trans cg;have k2:=(T.cell (p:=⟨A,1,none⟩) (Or.inr (Or.inl rfl))).trans c0;have k3:=(T.cell (p:=⟨A,3,none⟩) (Or.inr (Or.inl rfl))).trans c1;have k4:=(T.cell (p:=⟨0,i*3+1,none⟩) (Or.inr (Or.inr rfl))).trans p1;go_simp
      with_reducible rfl
     try simp only[V]
    have c2:∀w w':World,l.heap.size<=w.heap.size->Below w w w'->gN (fun x=>x=H\/x=A\/x=0) w w':=fun w w' h1 h2 x hx=>h2.block x (by obtain rfl|rfl|rfl:=hx<;>omega)
    have a6:=O c2;clear c2;refine iT rfl rfl (fun KK Q=>?_);go_simp;refine(mL a 0 _ (Hl a (by simp)) (by omega) (b8.below (TH _ _).drew.drew)).mono ?_;rintro e w9 ⟨u,a9⟩;have o:Below l l w9:=(TH l l).drew.drew.trans a9
    cases hva:lp a 0 with
    |none=>
     unfold kX at u;rw[hva]at u;subst u;have t:iE B g 8 cc D (mh r L [a,p,F]) W iX w9:=iE.bad (by rw[pp HS.el,M];simp only[hva]) (I b o) (by omega);unfold iX at t⊢;exact⟨rfl,t⟩
    |some z0=>
     unfold kX at u;rw[hva]at u;subst u;refine Q _ _ (a6 _ _ (aa _) a9) ?_;clear Q KK
     try simp only[V]
     refine iT rfl rfl (fun KK Q=>?_);go_simp;refine(mL F dg w9 (Hl F (by simp)) b2 (b8.below o)).mono ?_;rintro e E ⟨u,P⟩;have d:Below l l E:=I o P
     cases hvv:lp F dg with
     |none=>
      unfold kX at u;rw[hvv]at u;subst u;have t:iE B g 8 cc D (mh r L [a,p,F]) W iX E:=iE.bad (by rw[pp HS.el,M];simp only[hva,b7.out,hvv];rfl) (I b d) (by omega);unfold iX at t⊢;exact⟨rfl,t⟩
     |some z1=>
      unfold kX at u;rw[hvv]at u;subst u;refine Q _ _ (a6 _ _ o.size P) ?_;clear Q KK
      try simp only[V]
      have hr:mh r L [a,p,F]=some ⟨{r.x with cf:=l0++[⟨y.nm,y.zs++[z0,((i+1:Nat):Int),z1]⟩]},8,r.seen⟩:=by rw[pp HS.el,M];simp only[hva,b7.out,hvv];rfl
      have Hr:=O hr;clear hr hva hvv
      iterate 1
       refine kQ (v:=?_) rfl (fun _ _ _ h=>h) (by rfl) ?_ ?_;rotate_left
       .intro y T
        skip;go_simp
        with_reducible rfl
       try simp only[V]
      refine iT rfl rfl (fun K hK=>?_);go_simp;refine hK _ _ (a6 _ _ d.size ((TH _ _).alloc (aa _) _)) ?_;clear hK K
      try simp only[V]
      have j:Below l l (E.alloc (.cells [Value.int .i64 z0,.int .i64 ((i:Int)+1),z1].toArray 72)):=d.trans ((TH E E).alloc (aa _) _|>.mono d.size);have a8:=HA.go (I b j);have c3:=HL.go (I b j);have C:=d4.go j;have f7:=TK a8;have b1:=C.bbB
      have e5:B<=(E.alloc (.cells [Value.int .i64 z0,.int .i64 ((i:Int)+1),z1].toArray 72)).heap.size:=by have:=(I b j).size;omega
      have f1:=C.qn
      change qn<=cc at f1
      refine iT rfl rfl (fun K hK=>?_);refine nR underlying73 Tryz.infoChange3 rfl (by omega) (by omega) _ _ rfl B _ (.slice qa qn qc) qn E _ [z0,.int .i64 ((i:Int)+1),z1] rfl C.coat.row (TL E _) rfl rfl (by simp[Value.oneCell']) (by omega) e5 ?_;intro g2 f3 c9 a3 a1 e8;have a2:(Value.slice qa qn qc).ownBlock≠some H:=C.ne;have b5:(Value.slice qa qn qc).ownBlock≠some A:=HS.coat.word (by omega) (X 0 L rfl)
      have b6:(Value.slice qa qn qc).ownBlock≠some 0:=fun e=>by
       have h9:=(gT C.coat.row e).1;have e3:=HT.glo
       have e4:0<14:=by decide
       exact absurd (ab (ab e4 e3) (af e6 h9)) (Nat.lt_irrefl _)
      refine hK _ _ (fun x hx=>a1.kept x (by have:=j.size;obtain rfl|rfl|rfl:=hx<;>omega) (by obtain rfl|rfl|rfl:=hx;exact a2;exact b5;exact b6)) ?_;clear hK K
      have a4:c9.cell? ⟨H,l0.length*2+1,none⟩=some (.slice qa qn qc)/\c9.frozen? ⟨H,l0.length*2+1,none⟩=false:=by
       have hk:=a1.kept H b1.2 a2;obtain⟨q1,q2⟩:=C.cell (show 1<2 by omega);exact⟨by simp only[World.cell?,hk];exact q1,by simp only[World.frozen?,hk];exact q2⟩
      obtain⟨f9,g1⟩:=a4;have d1:=O a8;have d2:=O c3;have d3:=O C;have d7:=O (I b j);have b0:=O a3;have d9:=O a1;clear a8 c3 C j a3 a1 cg fg c0 c1 p1 d P o a9
      try simp only[V]
      refine nK rfl ?_
      go_wp2_with fail
      go_end0;exact DJ Hr d5 d7 d1 d2 d3 b0 d9 e8 hB hc
  .have h0:((ws.length:Int)+1==4)=false:=by rw[ak];omega
   have hb:iE B g 8 cc D (mh r L ws) W iX W:=iE.bad (FS h1) (TH _ _) (by omega);have a7:=hb;clear hb h1 c8;unfold iX at a7;have d6:=O a7;clear a7
   go_wp2_with fail
   refine(lm _).mono ?_;rintro e w3 ⟨rfl,rfl⟩;unfold iX
   go_wp2_with fail
   exact⟨rfl,d6⟩
 .omega
def Az{B g c}{D:Nat->Prop}{r ws W W' e}(h:iE B g r.at_ c D (kp r ws) W e W')(hat:∀q,kp r ws=some q->q.at_=r.at_):pI (At B g) g c D r ws W e W':=by
 obtain⟨h1,h2,h3⟩:=h;refine⟨h1,h2,h3.imp ?_ id⟩;rintro⟨q,a,b,D',d,h5⟩;refine⟨q,a,b,D',d,?_⟩
 show vM B g q.at_ _ _ _ _
 rw[hat q a];exact h5
def lT{B g c}{D:Nat->Prop}{r ws}{W W':World}(h:kp r ws=none)(a:Below W W W')(b:g<=W.heap.size):pI (At B g) g c D r ws W iX W':=
 ⟨a.mono b,fun k d _=>a.block k d,Or.inr ⟨h,rfl⟩⟩
def qg{B g c k:Nat}{D:Nat->Prop}{r y ws W W'}(h:iE B g r.at_ c D (some ⟨y,(k:Int),[]⟩) W (.returned (.tuple #[])) W')(l:kp r ws=some ⟨y,(k:Int),[]⟩)(d:D g):pI (At B g) g c D r ws W (.returned (.tuple #[])) (W'.setCell ⟨g,9,none⟩ (.int .i64 (k:Int))):=by
 obtain⟨h1,h2,h3⟩:=h
 obtain ⟨q,f,_,D',i,h5⟩|⟨e,_⟩:=h3
 .cases f
  exact⟨kZ h1 (aa _),fun b j a=>(iS (fun e=>a (by rw[e];exact d))).trans (h2 b j a),Or.inl ⟨_,l,rfl,D',i,h5.put⟩⟩
 .cases e
def sX(r:jL)(k:Nat):Prop:=(k:Int)=r.at_+1\/(5<=k/\4<=r.at_/\r.at_<=(k:Int))
def uI{B g cc n c N k j}{D:Nat->Prop}{r W ws a}(l:k<10)(h:vM B g j cc D r W)(p:sX r k)(z:r.at_≠9)(hw:ua W a n c ws W)(e:∀s∈ws,s.length<=100000)(o:ws.length<=100000)(d:cc<=100001)(b:B<=W.heap.size)(i:GW W)(u:TW N W)(t:N<=W.heap.size):
 Calls prog (RB k) #[U g,Z a n c] W (iE B g j cc D ((jk r.x k ws).map fun y=>⟨y,(k:Int),[]⟩) W):=by
 have w:r.at_<=9:=by obtain⟨f,v,s,k,m,A,q⟩:=h;exact q.hi
 unfold sX at p
 match k,l with
 |0,_=>exact LM h hw e (by omega) d b i
 |1,_=>exact FM h hw e (by omega) d b i
 |2,_=>exact IE h hw e (by omega) d b i
 |3,_=>exact LN h hw e (by omega) d b i
 |4,_=>exact DK h hw e (by omega) d b i
 |5,_=>exact IF h hw e o (by omega) d b i
 |6,_=>exact LQ h hw e o (by omega) d b i
 |7,_=>exact DM h hw (by omega) d b u t
 |8,_=>exact FO h hw e (by omega) d b
 |9,_=>exact N0 h hw (by omega) d b
 |k+10,l=>omega
def IJ{r ws}(h:r.at_=9):kp r ws=none:=by unfold kp;rw[aq h]
def IK{r a ws k}(b:r.at_≠9)(c:kV.findIdx? (· ==a)=some k):(sX r k->kp r (a::ws)=(jk r.x k ws).map fun y=>⟨y,(k:Int),[]⟩)/\(¬sX r k->kp r (a::ws)=none):=by
 constructor
 .intro h
  unfold kp;simp only[aj b,c];exact aq h
 .intro h
  unfold kp;simp only[aj b,c];exact aj h
def IL{r a ws}(b:r.at_=7)(c:kV.findIdx? (· ==a)=none):kp r (a::ws)=lX r a ws:=by
 unfold kp lX;simp only[aj (show¬r.at_=9 by omega),c,aq b]
def DR{r ws}(a:r.at_=8):kp r (lj::ws)=mh r lj ws:=by
 have b:kV.findIdx? (· ==lj)=none:=by decide
 unfold kp mh;simp only[aj (show¬r.at_=9 by omega),b,aj (show¬r.at_=7 by omega)];rw[aq ⟨a,trivial⟩]
def yt{r a ws}(d:r.at_≠9)(b:r.at_≠7)(c:¬(r.at_=8/\a=lj))(e:kV.findIdx? (· ==a)=none):kp r (a::ws)=none:=by
 unfold kp;simp only[aj d,e,aj b,aj c]
def Og{r q a ws}(h:lX r a ws=some q):q.at_=7:=by
 unfold lX at h;split at h
 .cases h
 .cases hp:ou r.x.l (fun y=>Ad y (a::ws))with
  |none=>rw[hp]at h;cases h
  |some l=>rw[hp]at h;cases h;rfl
def IM{r q a ws}(h:mh r a ws=some q):q.at_=8:=by
 unfold mh at h
 cases hp:ou r.x.cf (fun c=>sP c (a::ws))with
 |none=>rw[hp]at h;cases h
 |some l=>rw[hp]at h;cases h;rfl
def Oh(args w):(callFunc 327 args).run prog w=.ok (.enter 327 args) w:=by kernel_rfl
def Oi(args w):(callFunc 328 args).run prog w=.ok (.enter 328 args) w:=by kernel_rfl
def Oj(args w):(callFunc 329 args).run prog w=.ok (.enter 329 args) w:=by kernel_rfl
def Ol(args w):(callFunc 330 args).run prog w=.ok (.enter 330 args) w:=by kernel_rfl
def Om(args w):(callFunc 331 args).run prog w=.ok (.enter 331 args) w:=by kernel_rfl
def On(args w):(callFunc 332 args).run prog w=.ok (.enter 332 args) w:=by kernel_rfl
def Oo(args w):(callFunc 333 args).run prog w=.ok (.enter 333 args) w:=by kernel_rfl
def Oq(args w):(callFunc 334 args).run prog w=.ok (.enter 334 args) w:=by kernel_rfl
def Ot(args w):(callFunc 335 args).run prog w=.ok (.enter 335 args) w:=by kernel_rfl
def Ou(args w):(callFunc 336 args).run prog w=.ok (.enter 336 args) w:=by kernel_rfl
def uJ(k)(a:k<10):∀args w,(callFunc (RB k) args).run prog w=.ok (.enter (RB k) args) w:=by
 match k,a with
 |0,_=>exact Oh
 |1,_=>exact Oi
 |2,_=>exact Oj
 |3,_=>exact Ol
 |4,_=>exact Om
 |5,_=>exact On
 |6,_=>exact Oo
 |7,_=>exact Oq
 |8,_=>exact Ot
 |9,_=>exact Ou
 |k+10,a=>omega
def Tryz.zeroRdr(w):(zeroValue 188).run prog w=.ok .nilFunc w:=by kernel_rfl
def AA{B g a c}{D:Nat->Prop}{b W W' e}(h:iE B g a c D b W e W'):e=.returned (.tuple #[])\/e=iX:=by
 obtain ⟨_,_,h,_⟩|⟨_,h⟩:=h.2.2
 .exact Or.inl h
 .exact Or.inr h
def P8(a:Int):a=9\/((a !=9)=true):=by
 by_cases h:a=9
 .exact Or.inl h
 .exact Or.inr (by rw[fk];exact h)
def L9{B g c A}{D:Nat->Prop}{r W}{l:List UInt8}{ws}(h:At B g c D r W)(hw:ua W (J A) (ws.length+1) (ws.length+1) (l::ws) W)(hl:∀s∈l::ws,s.length<=100000)(hn:ws.length<=100000)(hc:c<=100001)(hB:B<=W.heap.size)(hg:GW W)(hT:TW g W):
 Calls prog 52 #[U g,Z (J A) (ws.length+1) (ws.length+1)] W (pI (At B g) g c D r (l::ws) W):=by
 obtain⟨e6,c0,e2,e0⟩:g<B/\D g/\ -1<=r.at_/\r.at_<=9:=by obtain⟨f,v,s,k,m,hA,hL⟩:=h;exact⟨hL.gB,hL.dg,hL.lo,hL.hi⟩
 have hgl:g<W.heap.size:=by omega
 obtain⟨c9,f9⟩:W.cell? ⟨g,9,none⟩=some (.int .i64 r.at_)/\W.frozen? ⟨g,9,none⟩=false:=by obtain⟨f,v,s,k,m,hA,hL⟩:=h;exact hA.cell 9
 have b8:W.cell? (J A)=some (.string (bs l)):=by
  obtain⟨g',off,e,_,h3⟩:=hw.2.2 (by omega);cases e;exact h3 0 l rfl
 have d5:A<W.heap.size:=by
  obtain⟨g',off,e,h3,_⟩:=hw.2.2 (by omega);cases e;exact h3
 obtain⟨oa,on,oc,ho,c6⟩:=hT.ord;have e4:on=10:=c6.1.symm;subst e4;have e3:1<W.heap.size:=ab (ab (show 1<14 by decide) hT.glo) (by omega);have H:=O h;have Hw:=O hw;have Hl:=O hl;have Hg:=O hg;have HT:=O hT;have d1:=O c6;have Hn:=O hn;clear h hw hl hg hT c6 hn f9
 go_enter func52,ntmps52
 obtain h9|h9:=P8 r.at_
 .have t:pI (At B g) g c D r (l::ws) W iX W:=lT (IJ h9) (TH _ _) (by omega)
  have c1:=t;rw[h9]at c9;clear t h9 b8 ho e2 e0;unfold iX at c1;have F:=O c1;clear c1
  go_wp2_with fail
  refine(lm _).mono ?_;rintro e w3 ⟨rfl,rfl⟩;unfold iX
  go_wp2_with fail
  exact⟨rfl,F⟩
 .have d3:r.at_≠9:=by rw[fk]at h9;exact h9
  have H9:=O d3;clear d3
  go_wp2_with fail
  refine(kW _).mono ?_;rintro e w3 ⟨rfl,rfl⟩;clear h9
  go_upto_region 1 with fail
  refine gS 5 [(0,true),(1,true),(2,true),(3,true),(4,false)] (by kernel_rfl) (by kernel_rfl) ?_
  iterate 4
   refine gU (v:=?_) rfl (fun _ _ _ h=>h) (by rfl) ?_ ?_;rotate_left
   .intro y u
    have k1:=(u.cell (p:=J 1) e3).trans ho;have k2:=(u.cell (p:=J A) d5).trans b8;go_simp
    with_reducible rfl
   try simp only[V]
  refine gP rfl rfl (fun KK d4=>?_);go_simp;refine(Ar kV l oa 10 oc g W.drew (d1.kept (fun _ _=>rfl) (aa _)) (show g<=W.heap.size by omega) (by omega)).mono ?_;rintro e j ⟨rfl,c5⟩;refine d4 _ _ c5 ?_;clear d4 KK
  try simp only[V]
  refine iu rfl ?_;have R:Below W W j:=(TH W W).drew.trans c5;have e8:=R.size;have d9:j.cell? ⟨g,9,none⟩=some (.int .i64 r.at_):=(R.cell (p:=⟨g,9,none⟩) hgl).trans c9;have X:j.cell? (J A)=some (.string (bs l)):=(R.cell (p:=J A) d5).trans b8;have H4:=O (vM.go H R);have P:=O R;have b7:=O (sV Hw R);have b6:=O (Hg.below R);have T:=O (HT.below (R.mono (by omega)));clear c5 R c9 b8 ho H Hw Hg HT d1
  cases hk:kV.findIdx? (· ==l)with
  |some k=>
   have w:k<10:=qN hk;have a2:=IK (ws:=ws) H9 hk;have i:=O a2;have Hk:=O hk;clear a2 hk;unfold Lj
   have e7:(0:Int)<=(k:Int):=by omega
   by_cases h1:(k:Int)=r.at_+1
   .have d6:((k:Int)==r.at_+1)=true:=by rw[dz];exact h1
    have b3:sX r k:=Or.inl h1;have z:=O b3;clear h1 b3
    go_wp2_with fail
    refine(kW _).mono ?_;rintro e w5 ⟨rfl,rfl⟩
    go_upto_region 4 with fail
    have a8:4<j.heap.size:=ab (ab (show 4<14 by decide) T.glo) (by omega);obtain⟨ob,ol,b2,c8,b1,C⟩:=T.rdr
    have a3:ob<j.heap.size:=by omega
    have b0:∀y,Below j j y->(Instr.lookup 189 (.map (some ob)) (.string (bs l)) false).run prog y=.ok (.func (.func (RB k)) #[] #[]) y:=fun y u=>by
     rw[mM underlying189 underlying9 (Tryz.zeroRdr y) (b1.block (u.block ob a3)) l false,C l];unfold Fv;rw[Hk];rfl
    have a6:=O b0;clear b1 C b0
    have S:A<j.heap.size:=by omega
    have c7:g<j.heap.size:=by omega
    have a7:B<=j.drew.heap.size:=by show B<=j.heap.size;omega
    have a9:g<=j.drew.heap.size:=by show g<=j.heap.size;omega
    have a5:=O (P.drew);have L:Below j j j.drew:=(TH _ _).drew;have a4:=O (vM.go H4 L);have Q:=O (b6.below L);have N:=O (T.below (L.mono (by omega)));have b4:=sV b7 L;have c2:=O b4;clear L b4
    by_cases b5:ws.length=0
    .obtain rfl:ws=[]:=aX.1 b5
     refine gS 8 [(0,true),(1,true),(2,true),(3,true),(4,true),(5,true),(6,true),(7,true)] (by kernel_rfl) (by kernel_rfl) ?_
     iterate 8
      refine gU (v:=?_) rfl (fun _ _ _ h=>h) (by rfl) ?_ ?_;rotate_left
      .intro y u
       have k1:=(u.cell (p:=J 4) a8).trans b2;have k2:=(u.cell (p:=J A) S).trans X;have k3:=a6 y (gJ (k:=1) u);go_simp
       with_reducible rfl
      try simp only[V]
     refine iu rfl ?_;have E:=uJ k w
     go_wp2_with fail
     clear E;refine(uI w a4 z H9 ⟨rfl,aa _,fun h0=>absurd h0 (by simp)⟩ (fun s hs=>Hl s (au _ hs)) Hn hc a7 Q N a9).mono ?_;rintro e w6 n;have b:=mf n a5 (by omega);clear n
     cases hh:jk r.x k []with
     |none=>
      rw[hh]at b
      obtain ⟨q,o,_⟩|⟨_,rfl⟩:=b.2.2
      .cases o
      .have a:pI (At B g) g c D r (l::[]) W iX w6:=⟨b.1,b.2.1,Or.inr ⟨(i.1 z).trans (by rw[hh];rfl),rfl⟩⟩
       clear b hh;unfold iX at a⊢;have d:=O a;clear a
       go_wp2_with fail
       exact⟨rfl,d⟩
     |some y=>
      rw[hh]at b
      obtain ⟨q,o,rfl,D',h4,h5⟩|⟨o,_⟩:=id b.2.2
      .have M:kp r (l::[])=some ⟨y,(k:Int),[]⟩:=(i.1 z).trans (by rw[hh];rfl)
       have a:=qg (k:=k) (y:=y) b M c0;obtain⟨f',v',s',k',m',K,a1⟩:=h5;obtain⟨a0,c3⟩:=K.cell 9
       change w6.cell? ⟨g,9,none⟩=some (.int .i64 r.at_)at a0
       have d:=O a;clear a b M a1 K h4 hh o X d9
       go_wp2_with fail
       go_end0;exact d
      .cases o
    .have d0:¬ws=[]:=fun e=>b5 (by rw[e];rfl)
     have d8:(1:Int)<=(ws.length:Int)+1:=by omega
     refine gS 8 [(0,true),(1,true),(2,true),(3,true),(4,true),(5,true),(6,true),(7,true)] (by kernel_rfl) (by kernel_rfl) ?_
     iterate 8
      refine gU (v:=?_) rfl (fun _ _ _ h=>h) (by rfl) ?_ ?_;rotate_left
      .intro y u
       have k1:=(u.cell (p:=J 4) a8).trans b2;have k2:=(u.cell (p:=J A) S).trans X;have k3:=a6 y (gJ (k:=1) u);go_simp
       with_reducible rfl
      try simp only[V]
     refine iu rfl ?_;have E:=uJ k w
     go_wp2_with fail
     clear E;refine(uI w a4 z H9 (by have:=Ay c2;simpa using this) (fun s hs=>Hl s (au _ hs)) Hn hc a7 Q N a9).mono ?_;rintro e w6 n;have b:=mf n a5 (by omega);clear n
     cases hh:jk r.x k ws with
     |none=>
      rw[hh]at b
      obtain ⟨q,o,_⟩|⟨_,rfl⟩:=b.2.2
      .cases o
      .have a:pI (At B g) g c D r (l::ws) W iX w6:=⟨b.1,b.2.1,Or.inr ⟨(i.1 z).trans (by rw[hh];rfl),rfl⟩⟩
       clear b hh;unfold iX at a⊢;have d:=O a;clear a
       go_wp2_with fail
       exact⟨rfl,d⟩
     |some y=>
      rw[hh]at b
      obtain ⟨q,o,rfl,D',h4,h5⟩|⟨o,_⟩:=id b.2.2
      .have M:kp r (l::ws)=some ⟨y,(k:Int),[]⟩:=(i.1 z).trans (by rw[hh];rfl)
       have a:=qg (k:=k) (y:=y) b M c0;obtain⟨f',v',s',k',m',K,a1⟩:=h5;obtain⟨a0,c3⟩:=K.cell 9
       change w6.cell? ⟨g,9,none⟩=some (.int .i64 r.at_)at a0
       have d:=O a;clear a b M a1 K h4 hh o X d9
       go_wp2_with fail
       go_end0;exact d
      .cases o
   .have d6:((k:Int)==r.at_+1)=false:=by rw[ak];exact h1
    by_cases h5:5<=k
    .by_cases h4:4<=r.at_
     .by_cases h6:r.at_<=(k:Int)
      .have b3:sX r k:=Or.inr ⟨h5,h4,h6⟩
       have z:=O b3
       have c4:(5:Int)<=(k:Int):=by omega
       clear h1 b3
       go_wp2_with fail
       refine(kW _).mono ?_;rintro e w5 ⟨rfl,rfl⟩
       go_upto_region 4 with fail
       have a8:4<j.heap.size:=ab (ab (show 4<14 by decide) T.glo) (by omega);obtain⟨ob,ol,b2,c8,b1,C⟩:=T.rdr
       have a3:ob<j.heap.size:=by omega
       have b0:∀y,Below j j y->(Instr.lookup 189 (.map (some ob)) (.string (bs l)) false).run prog y=.ok (.func (.func (RB k)) #[] #[]) y:=fun y u=>by
        rw[mM underlying189 underlying9 (Tryz.zeroRdr y) (b1.block (u.block ob a3)) l false,C l];unfold Fv;rw[Hk];rfl
       have a6:=O b0;clear b1 C b0
       have S:A<j.heap.size:=by omega
       have c7:g<j.heap.size:=by omega
       have a7:B<=j.drew.heap.size:=by show B<=j.heap.size;omega
       have a9:g<=j.drew.heap.size:=by show g<=j.heap.size;omega
       have a5:=O (P.drew);have L:Below j j j.drew:=(TH _ _).drew;have a4:=O (vM.go H4 L);have Q:=O (b6.below L);have N:=O (T.below (L.mono (by omega)));have b4:=sV b7 L;have c2:=O b4;clear L b4
       by_cases b5:ws.length=0
       .obtain rfl:ws=[]:=aX.1 b5
        refine gS 8 [(0,true),(1,true),(2,true),(3,true),(4,true),(5,true),(6,true),(7,true)] (by kernel_rfl) (by kernel_rfl) ?_
        iterate 8
         refine gU (v:=?_) rfl (fun _ _ _ h=>h) (by rfl) ?_ ?_;rotate_left
         .intro y u
          have k1:=(u.cell (p:=J 4) a8).trans b2;have k2:=(u.cell (p:=J A) S).trans X;have k3:=a6 y (gJ (k:=1) u);go_simp
          with_reducible rfl
         try simp only[V]
        refine iu rfl ?_;have E:=uJ k w
        go_wp2_with fail
        clear E;refine(uI w a4 z H9 ⟨rfl,aa _,fun h0=>absurd h0 (by simp)⟩ (fun s hs=>Hl s (au _ hs)) Hn hc a7 Q N a9).mono ?_;rintro e w6 n;have b:=mf n a5 (by omega);clear n
        cases hh:jk r.x k []with
        |none=>
         rw[hh]at b
         obtain ⟨q,o,_⟩|⟨_,rfl⟩:=b.2.2
         .cases o
         .have a:pI (At B g) g c D r (l::[]) W iX w6:=⟨b.1,b.2.1,Or.inr ⟨(i.1 z).trans (by rw[hh];rfl),rfl⟩⟩
          clear b hh;unfold iX at a⊢;have d:=O a;clear a
          go_wp2_with fail
          exact⟨rfl,d⟩
        |some y=>
         rw[hh]at b
         obtain ⟨q,o,rfl,D',h4,h5⟩|⟨o,_⟩:=id b.2.2
         .have M:kp r (l::[])=some ⟨y,(k:Int),[]⟩:=(i.1 z).trans (by rw[hh];rfl)
          have a:=qg (k:=k) (y:=y) b M c0;obtain⟨f',v',s',k',m',K,a1⟩:=h5;obtain⟨a0,c3⟩:=K.cell 9
          change w6.cell? ⟨g,9,none⟩=some (.int .i64 r.at_)at a0
          have d:=O a;clear a b M a1 K h4 hh o X d9
          go_wp2_with fail
          go_end0;exact d
         .cases o
       .have d0:¬ws=[]:=fun e=>b5 (by rw[e];rfl)
        have d8:(1:Int)<=(ws.length:Int)+1:=by omega
        refine gS 8 [(0,true),(1,true),(2,true),(3,true),(4,true),(5,true),(6,true),(7,true)] (by kernel_rfl) (by kernel_rfl) ?_
        iterate 8
         refine gU (v:=?_) rfl (fun _ _ _ h=>h) (by rfl) ?_ ?_;rotate_left
         .intro y u
          have k1:=(u.cell (p:=J 4) a8).trans b2;have k2:=(u.cell (p:=J A) S).trans X;have k3:=a6 y (gJ (k:=1) u);go_simp
          with_reducible rfl
         try simp only[V]
        refine iu rfl ?_;have E:=uJ k w
        go_wp2_with fail
        clear E;refine(uI w a4 z H9 (by have:=Ay c2;simpa using this) (fun s hs=>Hl s (au _ hs)) Hn hc a7 Q N a9).mono ?_;rintro e w6 n;have b:=mf n a5 (by omega);clear n
        cases hh:jk r.x k ws with
        |none=>
         rw[hh]at b
         obtain ⟨q,o,_⟩|⟨_,rfl⟩:=b.2.2
         .cases o
         .have a:pI (At B g) g c D r (l::ws) W iX w6:=⟨b.1,b.2.1,Or.inr ⟨(i.1 z).trans (by rw[hh];rfl),rfl⟩⟩
          clear b hh;unfold iX at a⊢;have d:=O a;clear a
          go_wp2_with fail
          exact⟨rfl,d⟩
        |some y=>
         rw[hh]at b
         obtain ⟨q,o,rfl,D',h4,h5⟩|⟨o,_⟩:=id b.2.2
         .have M:kp r (l::ws)=some ⟨y,(k:Int),[]⟩:=(i.1 z).trans (by rw[hh];rfl)
          have a:=qg (k:=k) (y:=y) b M c0;obtain⟨f',v',s',k',m',K,a1⟩:=h5;obtain⟨a0,c3⟩:=K.cell 9
          change w6.cell? ⟨g,9,none⟩=some (.int .i64 r.at_)at a0
          have d:=O a;clear a b M a1 K h4 hh o X d9
          go_wp2_with fail
          go_end0;exact d
         .cases o
      .have c4:(5:Int)<=(k:Int):=by omega
       have t:pI (At B g) g c D r (l::ws) W iX j:=lT (i.2 (by unfold sX;omega)) P (by omega);clear i;unfold iX at t;have F:=O t;clear t;have H1:=O h1;clear h1
       go_wp2_with fail
       refine(lm _).mono ?_;rintro e w5 ⟨rfl,rfl⟩;unfold iX
       go_wp2_with fail
       exact⟨rfl,F⟩
     .have c4:(5:Int)<=(k:Int):=by omega
      have t:pI (At B g) g c D r (l::ws) W iX j:=lT (i.2 (by unfold sX;omega)) P (by omega);clear i;unfold iX at t;have F:=O t;clear t;have H1:=O h1;clear h1
      go_wp2_with fail
      refine(lm _).mono ?_;rintro e w5 ⟨rfl,rfl⟩;unfold iX
      go_wp2_with fail
      exact⟨rfl,F⟩
    .have c4:¬(5:Int)<=(k:Int):=by omega
     have t:pI (At B g) g c D r (l::ws) W iX j:=lT (i.2 (by unfold sX;omega)) P (by omega);clear i;unfold iX at t;have F:=O t;clear t;have H1:=O h1;clear h1
     go_wp2_with fail
     refine(lm _).mono ?_;rintro e w5 ⟨rfl,rfl⟩;unfold iX
     go_wp2_with fail
     exact⟨rfl,F⟩
  |none=>
   unfold Lj
   by_cases h7:r.at_=7
   .have hr:=IL (ws:=ws) h7 hk
    have Hr:=O hr;have Hk:=O hk;clear hr hk;have H7:=O h7;rw[h7]at d9;clear h7
    go_wp2_with fail
    have hp:=H4.out;unfold At at hp;refine(L6 (ws:=ws) (by rw[<- H7];exact hp) H7 b7 Hl Hn hc (by omega) b6 T (by omega)).mono ?_;rintro e w5 n;have b:=mf n P (by omega);have a:pI (At B g) g c D r (l::ws) W e w5:=Az (by rw[H7,Hr];exact b) (fun q hq=>by rw[Hr]at hq;rw[H7];exact Og hq);have he:=AA n;clear n b hp
    obtain rfl|rfl:=he
    .have d:=O a;clear a
     go_wp2_with fail
     go_end0;exact d
    .unfold iX at a⊢
     have d:=O a;clear a
     go_wp2_with fail
     exact⟨rfl,d⟩
   .have d2:(r.at_==7)=false:=by rw[ak];exact h7
    by_cases h8:r.at_=8
    .by_cases b9:l=lj
     .subst b9
      have hr:=DR (ws:=ws) h8;have Hr:=O hr;have Hk:=O hk;clear hr hk h7 d2;have H8:=O h8;rw[h8]at d9;clear h8
      have d7:(bs lj==({data:=#[99,104,97,110,103,101]}:ByteArray))=true:=by decide
      go_wp2_with fail
      have hp:=H4.out;unfold At at hp;refine(FT (ws:=ws) (by rw[<- H8];exact hp) H8 b7 Hl Hn hc (by omega) b6 T (by omega)).mono ?_;rintro e w5 n;have b:=mf n P (by omega);have a:pI (At B g) g c D r (lj::ws) W e w5:=Az (by rw[H8,Hr];exact b) (fun q hq=>by rw[Hr]at hq;rw[H8];exact IM hq);have he:=AA n;clear n b hp
      obtain rfl|rfl:=he
      .have d:=O a;clear a
       go_wp2_with fail
       go_end0;exact d
      .unfold iX at a⊢
       have d:=O a;clear a
       go_wp2_with fail
       exact⟨rfl,d⟩
     .have t:pI (At B g) g c D r (l::ws) W iX j:=lT (yt H9 h7 (fun h=>b9 h.2) hk) P (by omega)
      have d7:(l==[99,104,97,110,103,101])=false:=by rw[ak];exact b9
      rw[h8]at d9;clear hk h7 d2 h8 b9;unfold iX at t;have F:=O t;clear t
      go_wp2_with fail
      refine(lm _).mono ?_;rintro e w5 ⟨rfl,rfl⟩;unfold iX
      go_wp2_with fail
      exact⟨rfl,F⟩
    .have t:pI (At B g) g c D r (l::ws) W iX j:=lT (yt H9 h7 (fun h=>h8 h.1) hk) P (by omega)
     have e5:(r.at_==8)=false:=by rw[ak];exact h8
     clear hk h7 h8;unfold iX at t;have F:=O t;clear t
     go_wp2_with fail
     refine(lm _).mono ?_;rintro e w5 ⟨rfl,rfl⟩;unfold iX
     go_wp2_with fail
     exact⟨rfl,F⟩
def RF(B g:Nat):vD B g (At B g) where
 lens:=by
  rintro c D r W ⟨f,v,s,k,m,e,d⟩;exact⟨f,v,s,k,m,e,d.lensAt⟩
 own:=by
  rintro c D r W b ⟨f,v,s,k,m,e,d⟩ l;exact d.own b l
 kept:=by
  intro c D r W W' h p u;exact vM.keep h p u
 read:=by
  intro c D r W ws A h hw a q t n i o j
  match ws,a with
  |[],a=>exact absurd rfl a
  |fw::ws,_=>exact L9 h hw q (by rw[aH]at t;omega) n i o j
def vE(t w)(c:GW w)(b:TW w w)(a:jY w w)(d:t.length<=100000):Calls prog 18 #[.string (bs t)] w (ye w (nr t)):=
 LH (Rd:=At (w+8) (w+3)) t w (RF _ _) (fun W h=>NX (by omega) h) c b a d
def ui(t:Int):gM:=⟨⟨1,0,0,0,0,0,0,0,0,0,0,0,t,⟨#[]⟩,0,0,0,0,0,0,0⟩,[]⟩
def tq:gR:=⟨⟨#[70]⟩,0,10000000,0,0,[0,0,0,750000],[550000,1],[ui 10000000,ui 0],[]⟩
def jq:List (List UInt8):=[[108,101,110,115,32,70],[111,98,106,101,99,116,32,105,110,102,105,110,105,116,121],[112,117,112,105,108,32,49,48],[115,116,111,112,32,48],[112,114,105,109,97,114,121,32,48],[102,105,101,108,100,32,48,32,48],[102,105,101,108,100,32,48,32,48,46,55,53],[119,97,118,101,32,53,53,48,32,49],[115,117,114,102,97,99,101,32,115,116,97,110,100,97,114,100],[116,104,105,99,107,32,49,48],[115,117,114,102,97,99,101,32,115,116,97,110,100,97,114,100],[101,110,100]]
def rm(ss:List (List UInt8)):List UInt8:=(ss.map (· ++[10])).flatten
def wJ(i:Nat)(ws:List (List UInt8)):List UInt8:=rm (jq.take i++ws++jq.drop (i+1))
def IN:iI tq=true:=by kernel_rfl
def CC:nO tq=rm jq:=by kernel_rfl
def Ma:nr (rm jq)=⟨tq,0,0⟩:=by kernel_rfl
def wK:gR:={tq with l:=[{ui 10000000 with s:={(ui 10000000).s with curv:=10000000}},ui 0]}
def pU(t:List UInt8)(line:Int)(e:Int):Prop:=nr t=⟨mG,line,e⟩
def Mb:nr (wJ 9 [[116,104,105,99,107,32,49,48],[99,117,114,118,32,48,46,48,49]])=⟨wK,0,0⟩:=by kernel_rfl
def SI:pU (wJ 7 [[119,97,118,101,32,53,53,48,46,48,32,49]]) 8 5:=by unfold pU;kernel_rfl
def SJ:pU (wJ 9 [[116,104,105,99,107,32,49,48],[116,104,105,99,107,32,49,48]]) 11 5:=by unfold pU;kernel_rfl
def SK:pU (wJ 11 []) 12 5:=by unfold pU;kernel_rfl
def SM:pU (wJ 3 [[115,116,111,112,32,49]]) 0 120:=by unfold pU;kernel_rfl
def SN:pU [] 1 5:=by unfold pU;kernel_rfl
end Go.Proofs.YtgohdcccfkjooaaGreatDoor
