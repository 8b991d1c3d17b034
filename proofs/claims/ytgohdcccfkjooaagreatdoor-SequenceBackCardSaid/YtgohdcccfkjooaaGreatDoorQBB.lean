import Derived.Test.YtgohdcccfkjooaaGreatDoorQAX
import Derived.Test.YtgohdcccfkjooaaGreatDoorQBA
import Derived.Deep.Slices
namespace Go.Proofs.YtgohdcccfkjooaaGreatDoor
set_option linter.all false
set_option maxRecDepth 100000
set_option maxHeartbeats 12800000
open Go.Proofs.Tryz Go.RowKit Go.ChangeShapes Go.WideShapes Go.ChangeAt
def Ns{s zs n}(a:zs.length=n*3)(h:oA s zs n=true): -1000000000<=s.thick/\s.thick<=1000000000:=by
 rw[<- zq s zs n a]at h;unfold tJ nX sr jr at h;simp at h;omega
def jB(c t:Int):gW:={mR with kind:=1,curv:=c,thick:=t}
def wA{c t}(a: -1000000000<=c/\c<=1000000000)(b: -1000000000<=t/\t<=1000000000):tr ⟨jB c t,[]⟩=true:=by
 unfold tr;simp only[cI,fy];show oA (jB c t) [] 0=true
 refine zP rfl (by simp) rfl ?_ ?_
 .constructor<;>first|exact qE 0 (by omega)|(simp only[jB,mR];omega)|(simp[jB,mR];done)|(simp[jB,mR];omega)
 .simp[rM,mT,kK,jB,mR]
structure Ig (w:World) (x:rz) (s f v k:iJ) (sv:Value) (l:List gM) (wx:World):Prop where
 q:∃lq:List jT,qt lq=l/\jD rL 22 70 (w+2) wx sv lq/\qu lq/\Em wx lq
 d:oU wx w x s f v k
 z:wx.heap[w.heap.size+1]? =some (.cells #[ik,oZ,oZ,oZ,oZ,oN,oN,oN,oN] 37 (0,0))
 b:Below w w wx
 ok:∀y∈l,tr y=true
def Ig.o{w x s f v k a l b}(h:Ig w x s f v k a l b):jD jE 22 70 (w+2) b a l:=by
 obtain⟨d,rfl,c,_⟩:=h.q;exact c.qr
def Ig.go{w x s f v k e l c g}(h:Ig w x s f v k e l c)(a:Below c c g):Ig w x s f v k e l g:=
 ⟨(let⟨lq,h1,h2,h3,h4⟩:=h.q;⟨lq,h1,h2.go jX a,h3,h4.mono a.size⟩),h.d.go a,(a.block _ (TK h.z)).trans h.z,I h.b a,h.ok⟩
def Ig.more{w x s f v k C l}{y:jT}{c}(h:Ig w x s f v k C l c){e}(t:qt e=l)(o:qu e){i}(j:Em i e)(r:i<=y.lo)(p:y.lo<=y.hi)(D:y.hi<=c.heap.size)(A:tr y.y=true){m g}(u:jD rL 22 70 (w+2) g m (e++[y]))(n:∀B w0,B<=w.heap.size+2->Below B w0 c->Below B w0 g):Ig w x s f v k m (l++[y.y]) g:=by
 have E:c.heap.size<=g.heap.size:=(n _ _ (aa _) (TH (w+2) c)).size;have h2:=n _ _ (aa _) (TH (w+2) c);refine⟨⟨_,by rw[Ek,t];rfl,u,o.snoc (fun q a=>af (j q a).2 r),(j.mono (by omega)).snoc p (by omega)⟩,(h2.block _ (by omega)).trans h.d,(h2.block _ (by omega)).trans h.z,n _ _ (by omega) h.b,fun q a=>?_⟩
 obtain a|a:=bj.1 a
 .exact h.ok q a
 .obtain rfl:=aK.1 a;exact A
def Ig.size{w x s f v k b l a}(h:Ig w x s f v k b l a):w.heap.size+2<=a.heap.size:=TK h.z
def Nt{l c a}(h0:1<=l.length)(h5:l.length<=5)(d:∀y∈l,tr y=true)(e: -1000000000<=c/\c<=1000000000)(h:0<=a)(i:a<l.length)(g:kU l a≠3):iW a (l++[⟨jB c 0,[]⟩])=true:=by
 unfold iW
 have h1:uM (l++[⟨jB c 0,[]⟩])=false:=by
  unfold uM;rw[du];intro y b
  obtain b|b:=bj.1 b
  .rw[d y b];simp
  .obtain rfl:=aK.1 b
   rw[wA e (by omega)];simp
 have h2:pe (l++[⟨jB c 0,[]⟩])=true:=by
  unfold pe;rw[al,gv,cY,aY (aa _),eC];have f:=(qz ik).2 rfl
  show pM (jB c 0) _=true
  simp[pM,jB,mR,f]
 have h3:kU (l++[⟨jB c 0,[]⟩]) a=kU l a:=by
  unfold kU;rw[aF (by omega)]
 rw[h1,h2,h3];simp[bt,g];omega
def Fc:kI ⟨#[100,114,97,102,116]⟩=true:=by decide+kernel
def Nu{y}(a:kI y.nm=true)(c:0<=y.dist/\y.dist<=1000000000)(d:1<=y.pupil/\y.pupil<=1000000000)(hf:jx y.dist y.fs (y.fs.length/2)=true)(hw:kz y.prim y.ws (y.ws.length/2)=true)(b:iW y.stop y.l=true)(h5:jo y.l y.cf=true):iI y=true:=by
 unfold iI
 have h1:pN y.dist y.pupil=true:=by unfold pN bt;simp;omega
 simp[bV,jO,a,h1,hf,hw,b,h5]
def JD(x:rz):List gM:=(x.surfs.take 5).map oh
def om(x:rz):List gM:=if(JD x).length=0 then[⟨jB 0 10000000,[]⟩]else JD x
def Do(l:List gM)(i:Nat):Int:=match l[i]? with
 |some y=>y.s.thick
 |none=>0
def zT(x:rz):Nat:=(x.stop% ((om x).length:Int)).toNat
def zU(x:rz):List gM:=if kU (om x) (zT x)=3 then(om x).set (zT x) ⟨jB 0 (Do (om x) (zT x)),[]⟩else om x
def Dp(x:rz):List gM:=zU x++[⟨jB (1000*x.image) 0,[]⟩]
def SD(x:rz)(w:World)(e:Ending)(w':World):Prop:=
 ∃y f v s k,e=.returned (jG y f v s k)/\mj (fun b=>w.heap.size<=b/\b<w'.heap.size) w' y f v s k/\iI y=true/\y.l=Dp x/\y.dist=uP x/\y.pupil=100000*(1+x.pupil)/\xV y.ws (y.ws.length/2)/\Below w w w'
def Fe{fn p tmps w g x f v s k}(h:fn.results=#[.cell p 37])(a:tmps.getD p undef=.pointer (J g))(b:hU w g 37 x f v s k):
 (results fn tmps).run prog w=.ok (jG x f v s k) w:=
 results_cell_row h tmps w g 37 _ (0,0) _ a b underlying37 rfl Tryz.infoLens
def Nv{P c}{a:Act}{y b x s f v k d}(h:oU y b x s f v k)(i:P.underlying 28=some d)(e:d.isRow=true)(hi:(P.info? 28).map (·.size)=some 9)(z)(g:c.op=.load 28 z)(j:a.eval z=.pointer (J b)):(execOp a.eval c).run P y=.ok (.value (EW x s f v k)) y:=by
 unfold execOp;simp only[g,j,Instr.loadAt,Instr.sureAddr,bR,cT,bU,run_loadVar_mid y b 0 28 (lI x s f v k) d h.range i e hi];rfl
def rB{ops}{Q:Exit->Act->World->Prop}{B i m c e a d w}(hi:ops.toList[i]? =some e)(hw:Region.wanted e (yielded ops d.tmps)=true){b x s f v k}(h:∀y,Below B w y->oU y b x s f v k)(z)(j:e.op=.load 28 z)(l:d.eval z=.pointer (J b))(g:Ec B prog ops Q c m (a.setIfInBounds i true) (d.put e.dst (EW x s f v k)) w):Ec B prog ops Q (i::c) m a d w:=
 jW hi hw (fun y n=>Nv (h y n) underlying28 rfl Tryz.infoDrL z j l) g
theorem PM{ws n}{p:Int}(b:1≤n)(h5:n≤5)(a:(List.range n).all (jM ws)=true)(h0:0≤p)(h1:p<n):kz p ws n=true:=by
 unfold kz;rw [a];simp [bt];omega
theorem PN{far zs n}(b:1≤n)(h5:n≤5)(a:(List.range n).all (iV (jj far) zs)=true):jx far zs n=true:=by
 unfold jx;rw [a];simp [bt];omega
theorem K6(x s f v k w)(hx:xU (fun b=>b<w.heap.size) w x s f v k):
 Calls prog 35 #[EW x s f v k] w (SD x w):=by
 obtain ⟨sa,n,sc⟩:=s;have Hx:=O hx;clear hx;obtain ⟨e1,e2⟩:=iN w (.cells (lI x ⟨sa,n,sc⟩ f v k).toArray 28) (.cells #[.string ik,oZ,oZ,oZ,oZ,oN,oN,oN,oN] 37);have hb:=iH (w:=w) (.cells (lI x ⟨sa,n,sc⟩ f v k).toArray 28) (.cells #[.string ik,oZ,oZ,oZ,oZ,oN,oN,oN,oN] 37);have E1:=O e1;have E2:=O e2;have Hb:=O hb;clear e1 e2 hb
 go_enter func35,ntmps35
 go_upto_region 1 with fail
 refine gI (Ig w x ⟨sa,n,sc⟩ f v k (.slice none 0 0) []) ⟨⟨[],rfl,jD.nil _ _ _ _ _,qu.nil,fun _ h=>by cases h⟩,E1.out,E2.out,Hb.out,fun _ h=>by cases h⟩ ?_;clear E1 E2 Hb;rintro w1 A;have r:=O A;clear A
 go_wp2_with fail
 go_loopw [3,4] (fun sv iv wr=>∃(i:Nat)(l:List gM),i≤5∧i≤n∧l=(x.surfs.take i).map oh∧l.length=i∧iv= .int .i64 (i:Int)∧Ig w x ⟨sa,n,sc⟩ f v k sv l wr) (fun _ iv _=>5 - (intOf iv).toNat)
 case atStart=>exact ⟨0,[],by omega,by omega,rfl,rfl,rfl,r.out⟩
 case round=>
  clear r;obtain ⟨i,l,hi,p4,j6,hl,rfl,A⟩:=hrel;have g6:=O j6;clear j6;have c0:=A.d.cells.1;have hlt:=A.d.lt;have k1:=A.size;have r:=O A;have X:=O hl;clear A hl
  by_cases d0:i<n∧i<5
  ·obtain ⟨d0,q6⟩:=d0
   obtain ⟨bs,so,y,cs,e1,q8,l6,⟨ya,yn,yc,rfl,l0,l1⟩,a7⟩:=(Hx.out.kept (gE r.out.b) (fun b h=>h)).s.at d0
   try simp only at e1
   subst e1;have n3:=O l0;have n4:=O l1;have n5:=O a7;have n7:=O l6;clear l0 l1 a7 l6
   go_wp2_with (first
    |(refine wu n5.out rfl (.tmp 22) rfl rfl ?_)
    |(go_at_call 68;refine (KU y ya yn yc _ (n3.out.kept (gN.refl _ _) (fun b h=>ab h r.out.b.size)) n4.out).mono ?_;rintro e w2 ⟨ys,ca,cn,cc,zs,l4,rfl,b7,h9,i0,F,i9,b5⟩;have n6:=O l4;have e3:=O b7;have q0:=O h9;have l9:=O i0;have b3:=O F;have m6:=O i9;have p9:=O b5;have m0:=O (r.out.go b5);have o4:=b5.size;obtain ⟨lq,t,u,E,C⟩:=r.out.q;have T:=(mD lq).symm.trans (ai List.length t);have b2:=O t;have Hq:=O (u.go jX b5);have b0:=O E;have b4:=O C;have P:=O T;clear t u E C T;clear l4 b7 h9 i0 F i9 b5)
    |(refine kA jX underlying34 Tryz.infoSurf3 rfl (by omega) (by omega) rfl (.tmp 18) (.tmp 25) rfl (w.heap.size+2) w2 _ lq ⟨⟨ys,zs⟩,wr.heap.size,w2.heap.size⟩ (gX ys ca cn cc) l.length P.out rfl Hq.out rfl rfl ⟨ca,cn,cc,rfl,e3.out.kept (gN.refl _ _) (fun b h=>⟨⟨by omega,h.2,r.out.o.fresh h.1⟩,h⟩),by have:=l9.out;omega,m6.out⟩ (by rw [P.out,X.out];omega) (by omega) ?_;intro g3 a1 w8 U Q _ _;have D:=O (m0.out.more b2.out b0.out b4.out (aa _) o4 (aa _) (by unfold tr;rw [← mU e3.out.irp];exact b3.out) U Q);clear U Q))
   go_roundw
   case rel=>exact ⟨i+1,_,by omega,by omega,by rw [g6.out,n6.out,mn n7.out,aT];rfl,by rw [al,X.out];rfl,by go_num,D.out⟩
   case measure=>simp [intOf];omega
  ·have k9:¬i<n∨(i<n∧ ¬i<5):=by omega
   have d3:l=JD x:=by
    rw [g6.out];unfold JD;have hn:x.surfs.length=n:=Hx.out.s.1
    by_cases h5:i=5
    ·rw [h5]
    ·rw [aM (by omega:x.surfs.length≤i),aM (by omega:x.surfs.length≤5)]
   have c5:=O d3;clear d3;clear d0
   obtain ⟨oa,oc,rfl⟩:∃oa oc,u3= .slice oa i oc:=by
    obtain ⟨a,c,e,_⟩:=jD.sl r.out.o;rw [X.out] at e;exact ⟨a,c,e⟩
   go_upto_region 3 with fail
   go_cut [15] (fun v wx=>v= .bool false∧wr=wx)
   case first=>
    rcases k9 with hx|⟨hx,hx4⟩
    all_goals
     go_wp2;go_meet;exact ⟨by first|rfl|(simp;omega),rfl⟩
   case rest=>
    obtain ⟨rfl,rfl⟩:=hcut;clear k9 c0
    go_upto_if 29 with fail
    go_cut [3] (fun sv wx=>∃(l:List gM),1≤l.length∧l.length≤5∧l=om x∧Ig w x ⟨sa,n,sc⟩ f v k sv l wx)
    case first=>
     by_cases c9:i=0
     ·have f6:((i:Int)==0)=true:=by simp;omega
      have F:tr ⟨jB 0 10000000,[]⟩=true:=wA (by omega) (by omega);have b3:=O F;clear F;have b7:=IRp.nil (fun b=>w.heap.size+2≤b∧b<wr.heap.size∧(Value.slice oa i oc).ownBlock≠some b) wr 3 none 0;have e3:=O b7
      have q5:i+1≤5:=by omega
      have i3:l++[⟨jB 0 10000000,[]⟩]=om x:=by
       unfold om;rw [← c5.out,aq (by rw [X.out];exact c9)];rw [aX.1 (by rw [X.out];exact c9:l.length=0)];rfl
      have m2:=O i3;clear b7 c9 i3;obtain ⟨lq,t,u,E,C⟩:=r.out.q;have T:=(mD lq).symm.trans (ai List.length t);have b2:=O t;have Hq:=O u;have b0:=O E;have b4:=O C;have P:=O T;clear t u E C T
      go_wp2_with (refine kA jX underlying34 Tryz.infoSurf3 rfl (by omega) (by omega) rfl (.tmp 30) (.tmp 32) rfl (w.heap.size+2) wr _ lq ⟨⟨jB 0 10000000,[]⟩,wr.heap.size,wr.heap.size⟩ (gX (jB 0 10000000) none 0 0) l.length P.out rfl Hq.out rfl rfl ⟨none,0,0,rfl,jN.nil _ _,by omega,lD 0⟩ (by rw [P.out,X.out];omega) (by omega) ?_;intro g3 a1 w8 U Q _ _;have D:=O (r.out.more b2.out b0.out b4.out (aa _) (aa _) (aa _) b3.out U Q);clear U Q)
      go_meet;exact ⟨_,by rw [al,X.out];simp,by rw [al,X.out];simp;omega,m2.out,D.out⟩
     ·have f6:((i:Int)==0)=false:=by simp;omega
      go_wp2;go_meet;exact ⟨l,by rw [X.out];omega,by rw [X.out];omega,(by unfold om;rw [← c5.out,aj (by rw [X.out];exact c9)]),r.out⟩
    case rest=>
     obtain ⟨m,h1,h5,j4,A⟩:=hcut;have e4:=O j4;clear j4;clear r X k1 hlt
     obtain ⟨g,oc,rfl,q4,o1⟩:∃g oc,u3= .slice (some ⟨g,0,none⟩) m.length oc∧w.heap.size+2≤g∧g<wc.heap.size:=by
      rcases A.o.form with ⟨_,e2⟩|⟨g,cap,e,q1,q2,_⟩
      ·rw [e2] at h1;cases h1
      ·exact ⟨g,cap,e,q1,q2⟩
     obtain ⟨f8,f9⟩:=Hx.out.stop
     obtain ⟨B,e6,a5⟩:∃B:Nat,x.stop % (m.length:Int)=(B:Int)∧B<m.length:=by
      have h0:=dq x.stop (by omega:(m.length:Int)≠0);have h1:=da x.stop (by omega:(0:Int) <(m.length:Int));exact ⟨(x.stop % (m.length:Int)).toNat,by omega,by omega⟩
     have c1:=A.d.cells.2.1;have hlt:=A.d.lt;obtain ⟨r4,⟨ya,yn,yc,rfl,f1,o7,o5,o6⟩,a7⟩:=A.o.at iD a5;have a2:=A.ok m[B] (cW a5)
     have l5: -1000000000≤m[B].s.thick∧m[B].s.thick≤1000000000:=by
      unfold tr at a2;rw [← mU f1] at a2;exact Ns f1.1 a2
     have k0:=a7 0 _ rfl;have o8:=a7 12 _ rfl;rw [bE] at k0
     have j1:kU m B=m[B].s.kind:=by unfold kU;rw [aI,ae a5]
     have k2:Do m B=m[B].s.thick:=by unfold Do;rw [ae a5]
     have j9:zT x=B:=by unfold zT;rw [← e4.out,e6];exact aI B
     generalize m[B].s.kind=kd at*;generalize m[B].s.thick=th at*;have r:=O A;have c4:=O j1;have h6:=O l5;have m9:=O k2;have g8:=O j9;clear k2 j9 A f1 o7 o5 o6 a7 a2 j1 l5
     go_upto_if 45 with fail
     go_cut [] (fun wx=>∃N:List gM,N.length=m.length∧kU N B≠3∧N=zU x∧Ig w x ⟨sa,n,sc⟩ f v k (.slice (some ⟨g,0,none⟩) m.length oc) N wx)
     case first=>
      by_cases R:kd=3
      ·have d1:(kd==3)=true:=by simpa using R
       clear R;have F:tr ⟨jB 0 th,[]⟩=true:=wA (by omega) h6.out;obtain ⟨lq,t,u,E,C⟩:=r.out.q
       have d5:B<lq.length:=by rw [← mD,t];exact a5
       have d4:=u.set jX d5 (x:=⟨⟨jB 0 th,[]⟩,wc.heap.size,wc.heap.size⟩) (cs:=gX (jB 0 th) none 0 0) ⟨none,0,0,rfl,jN.nil _ _,by omega,lD 0⟩;have f0:=gK g (gX (jB 0 th) none 0 0) (B*22) wc
       have i2:Ig w x ⟨sa,n,sc⟩ f v k (.slice (some ⟨g,0,none⟩) m.length oc) (m.set B ⟨jB 0 th,[]⟩) (wc.setCells g (B*22) (gX (jB 0 th) none 0 0)):=
        ⟨⟨_,by rw [El,t],d4,E.set (fun j y hy _=>Or.inl (C y (aL hy)).2),(fun q u=>by
          rw [im]
          rcases bH u with u|rfl
          ·exact C q u
          ·exact ⟨aa _,aa _⟩)⟩,(f0 _ (by omega)).trans r.out.d,(f0 _ (by omega)).trans r.out.z,ig (by omega) _ _ r.out.b,fun q u=>by
          rcases bH u with u|rfl
          ·exact r.out.ok q u
          ·exact F⟩
       have d2:kU (m.set B ⟨jB 0 th,[]⟩) B≠3:=by
        unfold kU;rw [aI,List.getElem?_set_self a5]
        show (1:Int)≠3
        omega
       have m1:=O i2;have f3:=O d2
       have M:m.set B ⟨jB 0 th,[]⟩=zU x:=by
        unfold zU;rw [← e4.out,g8.out,c4.out,aq (by simpa using d1),m9.out]
       have a9:=O M;clear M;clear i2 d2 d4 f0 F t u E C d5
       go_wp2_with (refine pX (jB 0 th) none 0 0 (r.out.o.there a5) rfl (.tmp 54) (.tmp 53) rfl rfl rfl ?_)
       go_meet;exact ⟨_,by simp,f3.out,a9.out,m1.out⟩
      ·have d1:(kd==3)=false:=by simpa using R
       go_wp2;go_meet;exact ⟨m,rfl,by rw [c4.out];exact R,(by unfold zU;rw [← e4.out,g8.out,c4.out,aj R]),r.out⟩
     case rest=>
      obtain ⟨N,j5,R,M,A⟩:=hcut;have a9:=O M;clear M;have d7:=O e6;clear r c4 h6 k0 o8 o1 e6 f8 f9 c1 hlt;have k1:=A.size;have hlt:=A.d.lt;have c7:=A.d.cells.2.2.2.2.2.2.2.1;have j0:=Hx.out.image;unfold qD at j0;have r:=O A;have a6:=O j5;have m7:=O R;clear A j5 R;have F:tr ⟨jB (1000*x.image) 0,[]⟩=true:=wA (by omega) (by omega);have b3:=O F;have q3:=O j0;clear F;obtain ⟨lq,t,u,E,C⟩:=r.out.q;have T:=(mD lq).symm.trans (ai List.length t);have b2:=O t;have Hq:=O u;have b0:=O E;have b4:=O C;have P:=O T;clear t u E C T
      go_upto_region 13 with (first
       |(refine kA jX underlying34 Tryz.infoSurf3 rfl (by omega) (by omega) rfl (.tmp 55) (.tmp 61) rfl (w.heap.size+2) wc _ lq ⟨⟨jB (1000*x.image) 0,[]⟩,wc.heap.size,wc.heap.size⟩ (gX (jB (1000*x.image) 0) none 0 0) N.length P.out rfl Hq.out rfl rfl ⟨none,0,0,rfl,jN.nil _ _,by omega,lD 0⟩ (by rw [P.out,a6.out];omega) (by omega) ?_;intro g3 a1 w8 U Q _ _;have D:=O (r.out.more b2.out b0.out b4.out (aa _) (aa _) (aa _) b3.out U Q);clear U Q)
       |(refine sK D.out.d.range rfl (.tmp 1) rfl rfl ?_)
       |(go_at_call 69;refine (Ie x ⟨sa,n,sc⟩ f v k _ ((Hx.out.kept (gE D.out.b) (fun b h=>h)).v.kept (gN.refl _ _) (fun b h=>ab h D.out.b.size))).mono ?_;rintro e w9 ⟨p2,W,p3,vz,rfl,k7,k5,k3,k4,k6,k8,e8⟩;have n2:=O k8;clear k8;have h4:=O k7;have n0:=O k5;have e5:=O k3;have g9:=O k4;have n1:=O k6;have b8:=O (D.out.go e8);have g1:=O e8;clear k7 k5 k3 k4 k6 e8))
      obtain ⟨w5,rfl⟩:∃w5:World,w5=w9:=⟨_,rfl⟩;have b6:=b8.out;have p5:=b6.d.lt;have r3:=TK b6.z;have p8:=b6.size;obtain ⟨-,-,-,c3,-,-,c6,-,-⟩:=b6.d.cells;have o2:=Hx.out.pupil;have j8:=Hx.out.prim;unfold og at o2 j8;have u0:IntKind.i64.wrap x.pupil=x.pupil:=TM _ (by omega);have u1:IntKind.i64.wrap (1+x.pupil)=1+x.pupil:=TM _ (by omega);have u2:IntKind.i64.wrap (100000*(1+x.pupil))=100000*(1+x.pupil):=TM _ (by omega);have u3:IntKind.i64.wrap x.prim=x.prim:=TM _ (by omega)
      have r2:¬W=0:=by have:=e5.out;omega
      have j7:0≤x.prim.tmod W∧x.prim.tmod W<W:=by
       have h1:=e5.out;rw [bu j8.1];exact ⟨dq _ (by omega),da _ (by omega)⟩
      have g7:=O j7;clear b6 j7 c7;refine jw (w.heap.size+1) [0,2,3,4,5,6,7,8,9,10,11,12,13,14,16,17,18,19] 5 (by kernel_rfl) rfl (by kernel_rfl) (by kernel_rfl) (fun _ _ o _ _ h=>by cases o<;>exact h) ?_
      have i1:∀y:World,Below (w.heap.size+1) w5.drew y→oU y w.heap.size x ⟨sa,n,sc⟩ f v k:=fun y hy=>(hy.block w.heap.size (dk _)).trans b8.out.d
      have c2:=O i1;clear i1;refine rB rfl (by rfl) c2.out _ rfl rfl ?_
      try simp only [Act.put,V]
      iterate 12
       refine jW (v:=?_) rfl (by rfl) ?_ ?_;rotate_left
       ·intro y hy
        have z3:=(hy.cell (p:=⟨w.heap.size,3,none⟩) (dk _)).trans c3;have z6:=(hy.cell (p:=⟨w.heap.size,6,none⟩) (dk _)).trans c6;go_simp
        with_reducible rfl
       try simp only [Act.put,V]
      refine rB rfl (by rfl) c2.out _ rfl rfl ?_
      try simp only [Act.put,V]
      iterate 2
       refine jW (v:=?_) rfl (by rfl) ?_ ?_;rotate_left
       ·intro y hy
        go_simp
        with_reducible rfl
       try simp only [Act.put,V]
      refine rB rfl (by rfl) c2.out _ rfl rfl ?_
      try simp only [Act.put,V]
      iterate 1
       refine jW (v:=?_) rfl (by rfl) ?_ ?_;rotate_left
       ·intro y hy
        go_simp
        with_reducible rfl
       try simp only [Act.put,V]
      refine mB ?_;clear c3 c6 u0 u1 u2 u3 c2;have o0:Below w5.heap.size w5 w5.drew:=jA (TH _ _);refine ia (i:=1) (by kernel_rfl) rfl rfl (fun K J=>?_);go_simp;refine (JB x ⟨sa,n,sc⟩ f v k _ Hx.out.far).mono ?_;rintro e wa ⟨rfl,e9⟩;refine J _ _ (e9.mono (by show w.heap.size+1≤w5.heap.size;omega)) ?_;clear J K
      try simp only [Act.put,V]
      have H:Below w5.heap.size w5 wa:=gJ (k:=1) e9;have q9:=H.size;clear e9 o0;have b9:=O (b8.out.go H);have h2:=O (h4.out.kept ((gE H).mono (fun b h=>h.2)) (fun b h=>(⟨h.1,ab h.2 H.size⟩:w8.heap.size≤b∧b<wa.heap.size)));have d8:=O (g1.out.trans (H.mono g1.out.size));clear b8 h4 H;refine ia (i:=15) (by kernel_rfl) rfl rfl (fun K J=>?_);go_simp;refine (Fa x ⟨sa,n,sc⟩ f v k wa ((Hx.out.kept (gE b9.out.b) (fun b h=>h)).f.kept (gN.refl _ _) (fun b h=>ab h b9.out.b.size)) Hx.out.far).mono ?_;rintro e wb ⟨n8,h8,n9,fz,rfl,i8,i6,i4,i5,i7,a3⟩;refine J _ _ (a3.mono (by omega)) ?_;clear J K
      try simp only [Act.put,V]
      have r0:=a3.size;have b1:=O (b9.out.go a3);have h3:=O (h2.out.kept ((gE a3).mono (fun b h=>h.2)) (fun b h=>(⟨h.1,ab h.2 a3.size⟩:w8.heap.size≤b∧b<wb.heap.size)));have d9:=O (d8.out.trans (a3.mono d8.out.size));have g4:=O i8;have m4:=O i6;have m3:=O i4;have g2:=O i5;have m5:=O i7;clear b9 h2 a3 i8 i6 i4 i5 i7;refine ia (i:=20) (by kernel_rfl) rfl rfl (fun K J=>?_);go_simp
      have q7:(N++[(⟨jB (1000*x.image) 0,[]⟩:gM)]).length=N.length+1:=by rw [al];rfl
      refine (KV x ⟨sa,n,sc⟩ f v k (N++[⟨jB (1000*x.image) 0,[]⟩]) _ (N.length+1) a1 wb ((Hx.out.kept (gE b1.out.b) (fun b h=>h)).k.kept Id (gN.refl _ _) (fun b h=>ab h b1.out.b.size)) (b1.out.o.rr iD) (by omega) (by rw [a6.out];omega)).mono ?_;rintro e d6 ⟨o9,l7,p0,cf,rfl,j3,j2,c8,L⟩;refine J _ _ (L.mono (by omega)) ?_;clear J K
      try simp only [Act.put,V]
      have r1:=L.size;have e0:=O (b1.out.go L);have a0:=O (h3.out.kept ((gE L).mono (fun b h=>h.2)) (fun b h=>(⟨h.1,ab h.2 L.size⟩:w8.heap.size≤b∧b<d6.heap.size)));have a8:=O (g4.out.kept ((gE L).mono (fun b h=>h.2)) (fun b h=>(⟨by have:=h.1;have:=d8.out.size;omega,ab h.2 L.size⟩:w8.heap.size≤b∧b<d6.heap.size)));have l8:=O (d9.out.trans (L.mono d9.out.size));have f2:=O c8;clear c8;have g5:=O j3;have m8:=O j2;clear b1 h3 g4 L j3 j2;refine ia (i:=21) (by kernel_rfl) rfl rfl (fun K J=>?_);go_simp;refine J _ _ (TH _ _) ?_;clear J K
      try simp only [Act.put,V]
      refine mm (i:=22) (by kernel_rfl) rfl rfl (fun K J=>?_);refine ja ⟨⟨#[100,114,97,102,116]⟩,uP x,100000*(1+x.pupil),x.stop % (m.length:Int),x.prim.tmod W,fz,vz,N++[⟨jB (1000*x.image) 0,[]⟩],cf⟩ ⟨n8,h8,n9⟩ ⟨p2,W,p3⟩ ⟨some ⟨g3,0,none⟩,N.length+1,a1⟩ ⟨o9,l7,p0⟩ e0.out.z rfl rfl (.tmp 2) (.tmp 86) rfl rfl rfl ?_;intro w7 h7 e7;refine J _ _ (by rw [e7];exact ig (aa _) _ _ (TH _ _)) ?_;clear J K;have H7:=O h7;have E7:=O e7;clear h7 e7;refine lH (by kernel_rfl) ?_
      try simp only [Act.put,V]
      go_wp2_with fail
      refine ar (Fe rfl rfl H7.out) rfl ?_
      have S:gN (fun b=>b≠w.heap.size+1) d6 w7:=by rw [E7.out];exact gK _ _ _ _
      have a4:w7.heap.size=d6.heap.size:=by rw [E7.out,im]
      have f4:=D.out.ok;have p6:=D.out.size;have p7:=d9.out.size;obtain ⟨p1,f7,o3,f5,g0⟩:=D.out.q;refine ⟨_,_,_,_,_,rfl,⟨⟨?_,?_,?_,?_,?_,?_,?_,?_,m4.out,n0.out,(by decide:(ByteArray.mk #[100,114,97,102,116]).size≤9223372036854775807)⟩,⟨p1,0,w8.heap.size,f7,(((o3.go jX l8.out).keep jX (S.mono (fun b h=>by have:=h.1;omega)) (by omega)).rro jX).kept (BT jX _) (gN.refl _ _) (fun b h=>⟨by have:=h.1;omega,h.2⟩),f5,(fun q u=>⟨aA _,g0 q u⟩),?_,?_,?_⟩⟩,?_,(by show _=Dp x;unfold Dp;rw [← a9.out]),rfl,rfl,(by rw [← qW a0.out];exact n2.out),?_⟩
      ·exact a8.out.kept (S.mono (fun b h=>by have:=h.1;omega)) (fun b h=>⟨by have:=h.1;omega,by rw [a4];exact h.2⟩)
      ·exact a0.out.kept (S.mono (fun b h=>by have:=h.1;omega)) (fun b h=>⟨by have:=h.1;omega,by rw [a4];exact h.2⟩)
      ·exact (jD.rr2 iD e0.out.o).kept iD (S.mono (fun b h=>by omega)) (fun b h=>⟨by have:=h.1;omega,by rw [a4];exact h.2⟩)
      ·exact g5.out.kept ky (S.mono (fun b h=>by have:=h.1;omega)) (fun b h=>⟨by have:=h.1;omega,by rw [a4];exact h.2⟩)
      ·show h8≤1000000;have:=g2.out;omega
      ·show W≤1000000;have:=g9.out;omega
      ·show N.length+1≤1000000;have:=a6.out;omega
      ·show l7≤1000000;have:=m8.out;omega
      ·exact a8.out.kept (S.mono (fun b h=>by have:=h.1;omega)) (fun b h=>⟨⟨by have:=h.1;omega,by rw [a4];exact h.2⟩,Or.inr h.1⟩)
      ·exact a0.out.kept (S.mono (fun b h=>by have:=h.1;omega)) (fun b h=>⟨⟨by have:=h.1;omega,by rw [a4];exact h.2⟩,Or.inr h.1⟩)
      ·exact g5.out.kept ky (S.mono (fun b h=>by have:=h.1;omega)) (fun b h=>⟨⟨by have:=h.1;omega,by rw [a4];exact h.2⟩,Or.inr (by have:=h.1;omega)⟩)
      ·refine Nu Fc (yJ Hx.out.far) ⟨by show 1≤100000*(1+x.pupil);omega,by show 100000*(1+x.pupil)≤1000000000;omega⟩ ?_ ?_ ?_ f2.out
       ·show jx (uP x) fz (fz.length / 2)=true
        rw [← qW a8.out];exact PN m3.out g2.out m5.out
       ·show kz (x.prim.tmod W) vz (vz.length / 2)=true
        rw [← qW a0.out];exact PM e5.out g9.out n1.out g7.out.1 g7.out.2
       ·exact Nt (by rw [a6.out];exact h1) (by rw [a6.out];exact h5) (fun q u=>f4 q (List.mem_append_left _ u)) (by omega) (by show 0≤x.stop % (m.length:Int);rw [d7.out];omega) (by show x.stop % (m.length:Int) <_;rw [d7.out,a6.out];omega) (by show kU N (x.stop % (m.length:Int))≠3;rw [d7.out];exact m7.out)
      ·rw [E7.out];exact ig (bY _) _ _ e0.out.b
section
variable{P:Program}{H:Type}{enc:TypeId×Value->H}{w:World}{base:Nat}{sp:Nat->Bool}{held:Bool}{t e:TypeId}{cs:List Value}
def Rd(enc:TypeId×Value->H)(P:Program)(w:World)(base:Nat)(b:Nat->Bool)(a:Bool)(t:TypeId)(cs:List Value):Prop:=∃fuel x,DataW.trod enc P w base b a fuel t cs=some x
def xz{k:IntKind}(a:P.underlying t=some (.int k))(h:Rd enc P w base sp held t cs):∃n,cs=[.int k n]/\k.min<=n/\n<=k.max:=by
 obtain⟨fuel,x,h⟩:=h;obtain⟨n,rfl,_,hw⟩:=DataW.trod_int a h;exact⟨n,rfl,by simpa[Lit.wf]using hw⟩
def DY{fs:Array Field}(b:P.underlying t=some (.struct fs))(h:Rd enc P w base sp held t cs):cs.length=P.cellsOf t:=by
 obtain⟨fuel,x,h⟩:=h;obtain⟨_,_,_,_,a,_⟩:=DataW.trod_struct b h;exact a
def iO{fs:Array Field}{ty off n:Nat}(e:P.underlying t=some (.struct fs))(h:Rd enc P w base sp held t cs)(i:Nat)(hf:(fs[i]?).map (fun f=>(f.type,f.offset))=some (ty,off))(d:P.cellsOf ty=n):
 Rd enc P w base sp held ty ((cs.drop off).take n):=by
 obtain⟨fuel,x,h⟩:=h;obtain⟨xs,m,_,_,j,g,c⟩:=DataW.trod_struct e h;obtain⟨f,a,b⟩:=gj.1 hf;cases b;have:=c i f a
 have hi:i<xs.length:=by
  rw[g];exact(cu.1 a).1
 rw[ae hi,d]at this;exact⟨m,_,this⟩
def OU{k:IntKind}{n:Nat}(f:P.underlying t=some (.array n e))(d:P.underlying e=some (.int k))(a:P.cellsOf e=1)(g:P.cellsOf t=n)(h:Rd enc P w base sp held t cs):
 ∀i,i<n-> ∃z,cs[i]? =some (.int k z)/\k.min<=z/\z<=k.max:=by
 obtain⟨fuel,x,h⟩:=h;obtain⟨xs,m,_,_,j,l,b⟩:=DataW.trod_array f h;intro i hi;have h1:=b i hi;rw[a,dn,ae (by omega)]at h1;obtain⟨z,c,h2⟩:=xz d ⟨m,_,h1⟩;refine⟨z,?_,h2⟩
 have:((cs.drop i).take 1)[0]? =some (.int k z):=by rw[c];rfl
 rw[cZ,aq (by omega),cp,bE]at this;exact this
def Mu{a:Addr}{v:Value}(h:w.cell? a=some v):a=⟨a.block,a.off,none⟩/\a.block<w.heap.size:=by
 unfold World.cell? at h;split at h
 .rename_i c _ _ hb
  split at h
  .cases h
  .rename_i hs
   refine⟨?_,TK hb⟩;obtain⟨b,o,s⟩:=a
   cases s with
   |none=>rfl
   |some s=>simp at hs
 .cases h
def Gg{m:Nat}(K:P.underlying t=some (.slice e))(F:P.cellsOf e=m)(h0:0<m)(h:Rd enc P w base sp held t cs):
 ∃a n c,cs=[.slice a n c]/\(a=none->n=0/\c=0)/\n<=c/\
  (0<n-> ∃b off,a=some ⟨b,off,none⟩/\b<w.heap.size/\ ∀i,i<n-> ∃d,d.length=m/\Rd enc P w base sp held e d/\w.rangeAt b (off+i*m) d):=by
 obtain⟨fuel,x,h⟩:=h
 obtain ⟨rfl,_⟩|⟨a,len,cap,p,B,n,_,rfl,_,Q,E,M,A,u,_,_⟩:=DataW.trod_slice K h
 .exact⟨none,0,0,rfl,fun _=>⟨rfl,rfl⟩,aa _,fun h=>absurd h (by omega)⟩
 .refine⟨some a,len,cap,rfl,fun e=>by(exact absurd e (by simp)),E,fun o=>?_⟩
  have k:∀i,i<len-> ∃d,w.cells? base (a.add (i*m)) m=some d/\Rd enc P w base sp held e d:=by
   intro i hi;have h1:=u i hi;rw[ae (by omega),F]at h1;obtain⟨d,h2,h3⟩:=Option.bind_eq_some_iff.1 h1;exact⟨d,h2,n,_,h3⟩
  obtain⟨L,s,_⟩:=k 0 o;obtain⟨_,N,g⟩:=World.cells?_some s;have f:=g 0 h0;rw[ae (by omega)]at f;rw[eB]at f
  have r:(a.add 0).add 0=a:=by simp[Addr.add]
  rw[r]at f;obtain⟨q,hlt⟩:=Mu f;refine⟨a.block,a.off,by rw[<- q],hlt,fun i hi=>?_⟩;obtain⟨d,C,H⟩:=k i hi;obtain⟨_,y,l⟩:=World.cells?_some C;refine⟨d,y,H,fun j v z=>?_⟩
  have D:j<m:=by have:=(TG.1 z).1;omega
  have:=l j D;rw[z]at this;rw[<- this];rw[q,fC,fC]
def DZ{α:Type}{p:Nat->α->Prop}:∀n:Nat,(∀i,i<n-> ∃x,p i x)-> ∃l:List α,l.length=n/\ ∀i x,l[i]? =some x->p i x
 |0,_=>⟨[],rfl,fun i x h=>by simp at h⟩
 |n+1,h=>by
  obtain⟨l,b,c⟩:=DZ n (fun i hi=>h i (by omega));obtain⟨x,d⟩:=h n (by omega);refine⟨l++[x],by simp[b],fun i y a=>?_⟩
  by_cases hi:i<n
  .rw[aF (by omega)]at a
   exact c i y a
  .rw[aY (by omega)]at a
   have:i=n:=by
    have:=(TG.1 a).1;simp at this;omega
   subst this;rw[b,eC]at a;cases a;exact d
def I9{α:Type}{R:pB α}{m:Nat}(u:P.underlying t=some (.slice e))(r:P.cellsOf e=m)(h0:0<m)(o:∀d,d.length=m->Rd enc P w base sp held e d-> ∃x,R (fun b=>b<w.heap.size) w x d)(h:Rd enc P w base sp held t cs):
 ∃(p:iJ)(l:List α),cs=[.slice p.a p.n p.c]/\RR R m (fun b=>b<w.heap.size) w p.a p.n p.c l:=by
 obtain⟨a,n,c,rfl,y,k,f⟩:=Gg u r h0 h
 by_cases j:0<n
 .obtain⟨b,off,rfl,hlt,g⟩:=f j
  obtain⟨l,q,s⟩:=DZ (p:=fun i x=>∃d,R (fun b=>b<w.heap.size) w x d/\w.rangeAt b (off+i*m) d) n (fun i hi=>by
   obtain⟨d,h1,h2,h3⟩:=g i hi;obtain⟨x,v⟩:=o d h1 h2
   exact⟨x,d,v,h3⟩)
  exact⟨⟨some ⟨b,off,none⟩,n,c⟩,l,rfl,q,k,fun _=>⟨b,off,rfl,hlt,s⟩⟩
 .obtain rfl:n=0:=by omega
  exact⟨⟨a,0,c⟩,[],rfl,RR.nil _ _ _ _ _ _⟩
def AQ(A:P.underlying t=some (.slice e))(s:P.underlying e=some (.int .u8))(v:P.cellsOf e=1)(h:Rd enc P w base sp held t cs):
 ∃(p:iJ)(zs:List Int),cs=[.slice p.a p.n p.c]/\BR (fun b=>b<w.heap.size) w p.a p.n p.c zs:=by
 obtain⟨a,n,c,rfl,C,g,f⟩:=Gg A v (by omega) h
 by_cases o:0<n
 .obtain⟨b,off,rfl,hlt,k⟩:=f o
  obtain⟨l,u,y⟩:=DZ (p:=fun i (x:Int)=>w.cell? ⟨b,off+i,none⟩=some (.int .u8 x)/\0<=x/\x<=255) n (fun i hi=>by
   obtain⟨B,h1,h2,h3⟩:=k i hi;obtain⟨z,rfl,q,r⟩:=xz s h2;have:=h3 0 _ rfl;rw[dn,bE]at this;refine⟨z,this,?_,?_⟩
   .simpa[IntKind.min,IntKind.signed,IntKind.bits]using q
   .simpa[IntKind.max,IntKind.signed,IntKind.bits]using r)
  refine⟨⟨some ⟨b,off,none⟩,n,c⟩,l,rfl,u,g,fun j d=>⟨b,off,rfl,hlt,?_⟩⟩;have d:j<n:=d
  have m:l[j]? =some (l.getD j 0):=by rw[ah,ae (by omega)];rfl
  exact y j _ m
 .obtain rfl:n=0:=by omega
  exact⟨⟨a,0,c⟩,[],rfl,rfl,g,fun j d=>absurd (show j<0 from d) (by omega)⟩
end
end Go.Proofs.YtgohdcccfkjooaaGreatDoor
