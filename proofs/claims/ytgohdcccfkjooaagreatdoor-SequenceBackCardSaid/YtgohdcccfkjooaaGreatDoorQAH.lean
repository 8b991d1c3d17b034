import Derived.Test.YtgohdcccfkjooaaGreatDoorQAG
namespace Go.Proofs.YtgohdcccfkjooaaGreatDoor
set_option linter.all false
set_option maxRecDepth 100000
set_option maxHeartbeats 1600000
open Go.Proofs.Tryz Go.RowKit
def Pg(w:World)(s:gW)(a:Option Addr)(n c:Nat)(e:Ending)(w':World):Prop:=
 ∃a' n' c',sj w (rJ s) a' n' c' e w'/\((s.kind<=2/\a'=a/\n'=n/\c'=c)\/(2<s.kind/\a'=none/\n'=0/\c'=0))
def MI(s a n c w)(h1:1<=s.kind)(h2:s.kind<=4):Calls prog 202 #[.agg (⟨s,a,n,c⟩:jt)] w (Pg w s a n c):=by
 have:s.kind=1\/s.kind=2\/s.kind=3\/s.kind=4:=by omega
 obtain h|h|h|h:=this
 .by_cases h0:s.order=0
  .exact(Pd s a n c w h h0).mono fun e w' b=>⟨a,n,c,b,Or.inl ⟨by omega,rfl,rfl,rfl⟩⟩
  .cases hm:kT s.glass with
   |true=>exact(Pe s a n c w h h0 hm).mono fun e w' b=>⟨a,n,c,b,Or.inl ⟨by omega,rfl,rfl,rfl⟩⟩
   |false=>exact(Pf s a n c w h h0 hm).mono fun e w' b=>⟨a,n,c,b,Or.inl ⟨by omega,rfl,rfl,rfl⟩⟩
 .exact(QH s a n c w h).mono fun e w' b=>⟨a,n,c,b,Or.inl ⟨by omega,rfl,rfl,rfl⟩⟩
 .exact(QI s a n c w h).mono fun e w' b=>⟨none,0,0,b,Or.inr ⟨by omega,rfl,rfl,rfl⟩⟩
 .exact(QJ s a n c w h).mono fun e w' b=>⟨none,0,0,b,Or.inr ⟨by omega,rfl,rfl,rfl⟩⟩
def ru{b T}:∀(e a d c:List Value)(w:World),d.length=e.length->w.heap[b]? =some (.cells (a++d++c).toArray T (0,0))->(w.setCells b a.length e).heap[b]? =some (.cells (a++e++c).toArray T (0,0))
 |[],a,d,c,w,hl,h=>by
  obtain rfl:d=[]:=aX.1 hl;exact h
 |v::e,a,d,c,w,hl,h=>by
  match d,hl with
  |o::d,hl=>
   have h1:=gG h a.length v;rw[bK,aC,fO,aj (by omega),eC]at h1;simp only[bF,aZ]at h1;have h2:=ru (T:=T) e (a++[v]) d c (w.setCell ⟨b,a.length,none⟩ v) (by simpa using hl) (by rw[h1];simp);simp only[al,gv]at h2
   show((w.setCell ⟨b,a.length,none⟩ v).setCells b (a.length+1) e).heap[b]? =_
   rw[h2];simp
def tE{b T a cs}{w:World}(h:w.heap[b]? =some (.cells cs T (0,0)))(c:cs.size=a.length):(w.setCells b 0 a).heap[b]? =some (.cells a.toArray T (0,0)):=by
 have:=ru a [] cs.toList [] w (by simpa using c) (by simpa using h);simpa using this
def ig{B b}(c:B<=b):∀(a:List Value)(o:Nat){w w':World},Below B w w'->Below B w (w'.setCells b o a)
 |[],_,_,_,h=>h
 |v::a,o,_,_,h=>ig c a (o+1) (h.setCell (p:=⟨b,o,none⟩) c v)
def uu(s:gW):List Value:=[.int .i64 s.kind,.int .i64 s.curv,.int .i64 s.conic,.int .i64 s.curvX,.int .i64 s.conicX,.int .i64 s.order,.int .i64 s.thick,.int .i64 s.semi,.int .i64 s.hole,.int .i64 s.dx,.int .i64 s.dy,.int .i64 s.ax,.int .i64 s.ay,.int .i64 s.az,.int .i64 0,.int .i64 0,
 .int .i64 s.a0,.int .i64 s.a1,.int .i64 s.a2,.int .i64 s.a3,.int .i64 s.p0,.int .i64 s.p1,.string s.glass]
def Tryz.infoFields:(prog.info? 317).map (·.size)=some 23:=by kernel_rfl
def nB(w:World)(o):(w.alloc o).heap.size=w.heap.size+1:=by simp
def tF{w:World}{g n cs T}(h:w.heap[g]? =some (.cells cs T (0,0)))(b:cs.size=n):w.there g 0 n:=fun j a=>by
 subst b;simp[World.cell?,World.frozen?,h,a]
def uv(s a n c w):Calls prog 240 #[.agg (⟨s,a,n,c⟩:jt)] w (iZ w (.agg (uu s).toArray)):=by
 have h1:=Y.new w s a n c;have e:=O h1;clear h1
 go_enter func240,ntmps240
 go_upto_region 1 with fail
 have h2:=TL (w.alloc (.cells (⟨s,a,n,c⟩:jt) 70)) (.cells #[oZ,oZ,oZ,oZ,oZ,oZ,oZ,oZ,oZ,oZ,oZ,oZ,oZ,oZ,oZ,oZ,oZ,oZ,oZ,oZ,oZ,oZ,ik] 317);rw[nB]at h2;refine gI (fun b=>Y b w s a n c/\b.heap[w.heap.size+1]? =some (.cells #[oZ,oZ,oZ,oZ,oZ,oZ,oZ,oZ,oZ,oZ,oZ,oZ,oZ,oZ,oZ,oZ,oZ,oZ,oZ,oZ,oZ,oZ,ik] 317 (0,0))/\Below w w b) ⟨Y.go e ((TH _ _).alloc (aa _) _) (by simp),h2,gY (gY (TH _ _))⟩ ?_;clear h2 e;rintro C ⟨h1,h2,d⟩;obtain⟨k0,k1,t,u,v,x,y,z,A,B,f,g,h,i,j,k,l,m,o,p,q,r⟩:=h1.cells
 go_wp2_with(refine wpList_store_mid rfl 317 (.tmp 2) (.tmp 38) rfl (w+1) 0 (uu s).toArray rfl rfl (tF h2 rfl) Tryz.infoFields (by simp[uu,Value.oneCell']) ?_;refine jJ (fun b=>b.heap[w.heap.size+1]? =some (.cells (uu s).toArray 317 (0,0))/\Below w w b) ⟨tE h2 rfl,ig (by omega) _ _ d⟩ ?_;clear h1 h2 d;rintro D ⟨h2,d⟩)
 exact ar (results_cell_row rfl _ _ _ 317 _ (0,0) _ rfl h2 underlying317 rfl Tryz.infoFields) rfl ⟨rfl,d⟩
def gN(S:Nat->Prop)(w w':World):Prop:=∀b,S b->w'.heap[b]? =w.heap[b]?
def gN.refl(S:Nat->Prop)(w):gN S w w:=fun _ _=>rfl
def gN.trans{S:Nat->Prop}{w c d}(h1:gN S w c)(h2:gN S c d):gN S w d:=fun b a=>(h2 b a).trans (h1 b a)
def gN.cell{S:Nat->Prop}{w w'}(h:gN S w w'){p}(a:S p.block):w'.cell? p=w.cell? p:=by simp[World.cell?,h _ a]
def gN.mono{S T:Nat->Prop}{w w'}(h:gN S w w')(c:∀b,T b->S b):gN T w w':=fun b a=>h b (c b a)
def gE{B w w'}(h:Below B w w'):gN (fun b=>b<B) w w':=fun b a=>h.block b a
def nW{w w' row}(c:w.grownBy w' row):gN (fun b=>b<w.heap.size/\row≠some b) w w':=fun b a=>c.block b a.1 (fun e=>a.2 e.symm)
def gK(g):∀(a:List Value)(o:Nat)(w:World),gN (fun b=>b≠g) w (w.setCells g o a)
 |[],_,_=>gN.refl _ _
 |v::a,o,w=>fun b c=>(gK g a (o+1) (w.setCell ⟨g,o,none⟩ v) b c).trans (TI _ _ _ _ (fun e=>c e))
def IRp(S:Nat->Prop)(w:World)(k:Nat)(a:Option Addr)(n c:Nat)(zs:List Int):Prop:=
 zs.length=n*k/\n<=c/\(0<n-> ∃b off,a=some ⟨b,off,none⟩/\S b/\ ∀j,j<n*k->w.cell? ⟨b,off+j,none⟩=some (.int .i64 (zs.getD j 0)))
def IRp.kept{S T:Nat->Prop}{w w' k a n c zs}(h:IRp S w k a n c zs)(f:gN S w w')(i:∀b,S b->T b):IRp T w' k a n c zs:=
 ⟨h.1,h.2.1,fun g=>let⟨b,off,e,hb,hc⟩:=h.2.2 g;⟨b,off,e,i b hb,fun j d=>(f.cell (p:=⟨b,off+j,none⟩) hb).trans (hc j d)⟩⟩
def IRp.ir{S:Nat->Prop}{N w k a n c zs}(h:IRp S w k a n c zs)(f:∀b,S b->b<N):IR N w k a n c zs:=
 ⟨h.1,h.2.1,fun d=>let⟨b,off,e,hb,hc⟩:=h.2.2 d;⟨b,off,e,f b hb,hc⟩⟩
def IR.irp{S:Nat->Prop}{N w k a n c zs}(h:IR N w k a n c zs)(f:∀b,b<N->S b):IRp S w k a n c zs:=
 ⟨h.1,h.2.1,fun d=>let⟨b,off,e,hb,hc⟩:=h.2.2 d;⟨b,off,e,f b hb,hc⟩⟩
def IRp.nil(S:Nat->Prop)(w k a c):IRp S w k a 0 c []:=⟨by simp,aA _,fun h=>absurd h (by omega)⟩
abbrev pB(α:Type):=(Nat->Prop)->World->α->List Value->Prop
structure kR {α:Type} (k:Nat) (R:pB α):Prop where
 len:∀{S w x cs},R S w x cs->cs.length=k
 kept:∀{S T w w' x cs},R S w x cs->gN S w w'->(∀b,S b->T b)->R T w' x cs
 one:∀{S w x cs},R S w x cs-> ∀v∈cs,v.oneCell'=true
def RR{α:Type}(R:pB α)(k:Nat)(S:Nat->Prop)(w:World)(a:Option Addr)(n c:Nat)(l:List α):Prop:=
 l.length=n/\n<=c/\(0<n-> ∃b off,a=some ⟨b,off,none⟩/\S b/\ ∀i x,l[i]? =some x-> ∃cs,R S w x cs/\w.rangeAt b (off+i*k) cs)
def jb{S:Nat->Prop}{w w' b o cs}(h:w.rangeAt b o cs)(c:gN S w w')(a:S b):w'.rangeAt b o cs:=fun j v d=>(c.cell (p:=⟨b,o+j,none⟩) a).trans (h j v d)
def RR.kept{α R k}(ok:kR k R){S T:Nat->Prop}{w w' a n c}{l:List α}(h:RR R k S w a n c l)(d:gN S w w')(f:∀b,S b->T b):RR R k T w' a n c l:=
 ⟨h.1,h.2.1,fun g=>let⟨b,off,e,hb,hc⟩:=h.2.2 g;⟨b,off,e,f b hb,fun i x j=>let⟨cs,h1,h2⟩:=hc i x j;⟨cs,ok.kept h1 d f,jb h2 d hb⟩⟩⟩
def RR.go{α R k}(ok:kR k R){w w' a n c}{l:List α}(h:RR R k (fun b=>b<w.heap.size) w a n c l)(d:Below w w w'):RR R k (fun b=>b<w'.heap.size) w' a n c l:=
 h.kept ok (gE d) (fun b h=>ab h d.size)
def RR.nil{α}(R:pB α)(k)(S:Nat->Prop)(w a c):RR R k S w a 0 c []:=⟨rfl,aA _,fun h=>absurd h (by omega)⟩
def RR.at{α R k}{S:Nat->Prop}{w a n c}{l:List α}(h:RR R k S w a n c l){i:Nat}(hi:i<n):
 ∃b off x cs,a=some ⟨b,off,none⟩/\S b/\l[i]? =some x/\R S w x cs/\w.rangeAt b (off+i*k) cs:=by
 obtain⟨b,off,e,f,g⟩:=h.2.2 (by omega)
 have d:i<l.length:=by rw[h.1];exact hi
 obtain⟨cs,h1,h2⟩:=g i l[i] (ae d);exact⟨b,off,l[i],cs,e,f,ae d,h1,h2⟩
def RR.take{α R k}{S:Nat->Prop}{w a n c}{l:List α}(h:RR R k S w a n c l){i:Nat}(hi:i<=n):RR R k S w a i c (l.take i):=by
 refine⟨by rw[bn,h.1];omega,af hi h.2.1,fun h0=>?_⟩;obtain⟨b,off,e,f,g⟩:=h.2.2 (by omega);refine⟨b,off,e,f,fun j x d=>?_⟩;rw[cZ]at d;split at d
 .exact g j x d
 .cases d
def mC{k}:∀(css:List (List Value))(i:Nat)(cs:List Value)(j:Nat),(∀c∈css,c.length=k)->css[i]? =some cs->j<k->css.flatten[i*k+j]? =cs[j]?
 |[],i,cs,j,_,h,_=>by simp at h
 |c::css,0,cs,j,hl,h,hj=>by
  have e:c=cs:=by simpa using h
  subst e;have:=hl c (by simp);rw[ce,aF (by omega)];simp
 |c::css,i+1,cs,j,hl,h,hj=>by
  have a:=hl c (by simp);rw[ce,aY (by rw[a,df];omega),a];rw[show(i+1)*k+j-k=i*k+j by rw[df];omega];exact mC css i cs j (fun c a=>hl c (by simp[a])) (by simpa using h) hj
def lK{k}:∀(css:List (List Value)),(∀c∈css,c.length=k)->css.flatten.length=css.length*k
 |[],_=>by simp
 |c::css,hl=>by
  rw[ce,al,lK css (fun c a=>hl c (by simp[a])),hl c (by simp),aH,df];omega
def tG{k}:∀(css:List (List Value))(i:Nat)(cs:List Value),(∀c∈css,c.length=k)->i<css.length->cs.length=k->(css.set i cs).flatten=css.flatten.take (i*k)++cs++css.flatten.drop (i*k+k)
 |[],i,cs,_,h,_=>by simp at h
 |c::css,0,cs,hl,h,b=>by
  have:=hl c (by simp);simp[List.drop_append,this]
 |c::css,i+1,cs,hl,h,b=>by
  have a:=hl c (by simp);have f:=tG css i cs (fun c b=>hl c (by simp[b])) (by simpa using h) b;rw[aW,ce,f,ce];have d:c.take ((i+1)*k)=c:=aM (by rw[a,df];omega);have e:c.drop ((i+1)*k+k)=[]:=gp (by rw[a,df];omega);rw[fH,List.drop_append,d,e,a];rw[show(i+1)*k-k=i*k by rw[df];omega,show(i+1)*k+k-k=i*k+k by rw[df];omega];simp
def jD{α:Type}(R:pB α)(k:Nat)(T:TypeId)(base:Nat)(w:World)(v:Value)(l:List α):Prop:=
 ∃css:List (List Value),css.length=l.length/\(∀c∈css,c.length=k)/\w.ownsRow base T k v l.length css.flatten/\ ∀(i:Nat)(x:α)(cs:List Value),l[i]? =some x->css[i]? =some cs->R (fun b=>base<=b/\b<w.heap.size/\v.ownBlock≠some b) w x cs
def jD.nil{α}(R:pB α)(k T base w):jD R k T base w (.slice none 0 0) []:=
 ⟨[],rfl,by simp,World.ownsRow_nil _ _ _ _,fun i x cs h=>by simp at h⟩
def kD{w w':World}{base e size n v xs}(h:w.ownsRow base e size v n xs)(c:Below w w w'):w'.ownsRow base e size v n xs:=by
 obtain⟨l,r⟩:=h;refine⟨l,r.imp id ?_⟩;rintro⟨g,cap,a,e,d,b,f⟩;exact⟨g,cap,a,e,d,(c.block g (TK b)).trans b,f⟩
def jD.go{α R k}(ok:kR k R){T base w w'}{v:Value}{l:List α}(h:jD R k T base w v l)(a:Below w w w'):jD R k T base w' v l:=by
 obtain⟨css,h1,h2,h3,c⟩:=h;refine⟨css,h1,h2,kD h3 a,fun i x cs e d=>ok.kept (c i x cs e d) ?_ ?_⟩
 .exact(gE a).mono (fun b h=>h.2.1)
 .exact fun b h=>⟨h.1,ab h.2.1 a.size,h.2.2⟩
def jD.keep{α R k}(ok:kR k R){T base w w'}{v:Value}{l:List α}(h:jD R k T base w v l)(c:gN (fun b=>base<=b/\b<w.heap.size) w w')(n:w.heap.size<=w'.heap.size):jD R k T base w' v l:=by
 obtain⟨css,h1,h2,h3,j⟩:=h;refine⟨css,h1,h2,?_,fun i x cs o m=>ok.kept (j i x cs o m) (c.mono (fun b h=>⟨h.1,h.2.1⟩)) (fun b h=>⟨h.1,ab h.2.1 n,h.2.2⟩)⟩;obtain⟨l,r⟩:=h3;refine⟨l,r.imp id ?_⟩;rintro⟨g,cap,a,e,d,f,p⟩;exact⟨g,cap,a,e,d,(c g ⟨d,TK f⟩).trans f,p⟩
def jD.form{α R k T base w}{v:Value}{l:List α}(h:jD R k T base w v l):
 (v=.slice none 0 0/\l=[])\/ ∃g cap,v=.slice (J g) l.length cap/\base<=g/\g<w.heap.size/\l.length<=cap/\cap<=maxLen/\v.ownBlock=some g:=by
 obtain⟨css,h1,h2,h3,i⟩:=h
 obtain ⟨e,h0⟩|⟨g,cap,f,e,a,b,c,d,j,m⟩:=h3.2
 .exact Or.inl ⟨e,aX.1 h0⟩
 .exact Or.inr ⟨g,cap,e,a,TK b,c,d,by rw[e];rfl⟩
def jD.fresh{α R k T base w}{v:Value}{l:List α}(h:jD R k T base w v l){b:Nat}(c:w.heap.size<=b):v.ownBlock≠some b:=by
 intro e
 obtain ⟨rfl,_⟩|⟨g,cap,_,_,d,_,_,a⟩:=h.form
 .cases e
 .rw[a]at e;cases e;omega
def jD.rr{α R k}(ok:kR k R){T base w}{a:Option Addr}{n c:Nat}{l:List α}(h:jD R k T base w (.slice a n c) l):RR R k (fun b=>b<w.heap.size) w a n c l:=by
 obtain⟨css,h1,h2,h3,p⟩:=h
 obtain ⟨e,h0⟩|⟨g,cap,t,e,y,r,s,z,A,B⟩:=h3.2
 .cases e
  obtain rfl:=aX.1 h0;exact RR.nil _ _ _ _ _ _
 .cases e
  refine⟨rfl,s,fun u=>⟨g,0,rfl,TK r,fun i x o=>?_⟩⟩;have hi:i<l.length:=(TG.1 o).1;have d:css[i]? =some css[i]:=ae (by omega);refine⟨css[i],ok.kept (p i x _ o d) (gN.refl _ _) (fun b h=>h.2.1),fun j v m=>?_⟩
  have q:j<k:=by
   have:=(TG.1 m).1;rw[h2 css[i] (cW _)]at this;exact this
  have f:=h3.cells (g:=g) rfl (i*k+j) v (by rw[mC css i _ j h2 d q];exact m);rw[Addr.add_mid,<- cN]at f;exact f
def jD.at{α R k}(ok:kR k R){T base w}{g n c:Nat}{l:List α}(h:jD R k T base w (.slice (J g) n c) l){i:Nat}(hi:i<l.length):
 ∃cs,R (fun b=>b<w.heap.size) w l[i] cs/\w.rangeAt g (i*k) cs:=by
 have a:=h.rr ok;obtain⟨b,off,x,cs,e,f,d,h1,h2⟩:=a.at (i:=i) (by rw[<- a.1];exact hi);cases e;rw[ae hi]at d;cases d;exact⟨cs,h1,by simpa using h2⟩
def A0{w:World}{base e size n g c xs}(h:w.ownsRow base e size (.slice (J g) n c) n xs){o m}(l:o+m<=n*size):w.there g o m:=by
 obtain ⟨e,_⟩|⟨i,cap,a,e,p,b,d,q,f,r⟩:=h.2
 .cases e
 .cases e
  intro j k
  have:o+j<a.size:=by rw[f];have:=cm size d;omega
  simp[World.cell?,World.frozen?,b,this]
def jD.there{α R k T base w}{g n c:Nat}{l:List α}(h:jD R k T base w (.slice (J g) n c) l){i:Nat}(hi:i<l.length):w.there g (i*k) k:=by
 obtain⟨css,h1,h2,h3,f⟩:=h
 have a:n=l.length:=by
  obtain ⟨e,_⟩|⟨d,cap,b,e,_⟩:=h3.2
  .cases e
  .cases e;rfl
 subst a;refine A0 h3 ?_;have:=cm k (show i+1<=l.length from hi);rw[df]at this;omega
def tH{b T}{w:World}{a}(h:w.heap[b]? =some (.cells a T (0,0)))(o c)(d:o+c.length<=a.size):
 (w.setCells b o c).heap[b]? =some (.cells (a.toList.take o++c++a.toList.drop (o+c.length)).toArray T (0,0)):=by
 have e:a.toList=a.toList.take o++(a.toList.drop o).take c.length++a.toList.drop (o+c.length):=by
  rw[aC,<- eE,cA,cA]
 have:=ru (b:=b) (T:=T) c (a.toList.take o) ((a.toList.drop o).take c.length) (a.toList.drop (o+c.length)) w (by simp;omega) (by rw[<- e];simpa using h);rw[bn,cD (by simp;omega)]at this;exact this
def im(g):∀(a:List Value)(o:Nat)(w:World),(w.setCells g o a).heap.size=w.heap.size
 |[],_,_=>rfl
 |v::a,o,w=>by rw[World.setCells,im g a];simp
def jD.set{α R k}(ok:kR k R){T base w}{g n c:Nat}{l:List α}(h:jD R k T base w (.slice (J g) n c) l){i:Nat}(hi:i<l.length){x:α}{cs:List Value}(v:R (fun b=>base<=b/\b<w.heap.size/\b≠g) w x cs):jD R k T base (w.setCells g (i*k) cs) (.slice (J g) n c) (l.set i x):=by
 obtain⟨css,h1,h2,h3,A⟩:=h;have a:=ok.len v;have q:(Value.slice (J g) n c).ownBlock=some g:=rfl
 have t:∀{y:α}{ds:List Value},R (fun b=>base<=b/\b<w.heap.size/\b≠g) w y ds->R (fun b=>base<=b/\b<(w.setCells g (i*k) cs).heap.size/\(Value.slice (J g) n c).ownBlock≠some b) (w.setCells g (i*k) cs) y ds:=fun C=>
  ok.kept C ((gK g cs (i*k) w).mono (fun b h=>h.2.2)) (fun b h=>⟨h.1,by rw[im];exact h.2.1,by rw[q];intro e;cases e;exact h.2.2 rfl⟩)
 refine⟨css.set i cs,by simp[h1],?_,?_,?_⟩
 .intro d f
  obtain f|rfl:=bH f
  .exact h2 d f
  .exact a
 .rw[dL]
  obtain ⟨e,_⟩|⟨L,cap,p,e,D,E,z,F,H,K⟩:=h3.2
  .cases e
  .cases e
   have m:=cm k (show i+1<=l.length from hi);rw[df]at m;have r:=cm k z
   have u:(css.set i cs).flatten.length=l.length*k:=by
    rw[lK (k:=k) _ (fun d f=>by
     obtain f|rfl:=bH f
     .exact h2 d f
     .exact a),dL,h1]
   refine⟨u,Or.inr ⟨g,c,_,rfl,D,tH E (i*k) cs (by rw[a,H];omega),z,F,?_,?_⟩⟩
   .simp[a];omega
   .have B:(p.toList.take (i*k)).length=i*k:=by rw[bn,cD (by simp;omega)]
    have s:(p.toList.take (i*k)++cs).length=i*k+k:=by rw[al,B,a]
    rw[tG css i cs h2 (by omega) a,<- K,fH,aM (by rw[s];exact m),s,List.take_take,cD (by omega),List.drop_take,a]
 .intro j y ds o f
  rw[cF]at o f
  by_cases e:i=j
  .subst e
   rw[aq rfl,aq (by omega)]at o f;cases o;cases f;exact t v
  .rw[aj e]at o f
   exact t (ok.kept (A j y ds o f) (gN.refl _ _) (fun b h=>⟨h.1,h.2.1,fun e=>h.2.2 (by rw[q,e])⟩))
def jD.grown{α R k}(ok:kR k R){T base w w'}{v:Value}{l l'}{css ds:List (List Value)}(h:css.length=l.length/\(∀c∈css,c.length=k)/\ ∀(i:Nat)(x:α)(cs:List Value),l[i]? =some x->css[i]? =some cs->R (fun b=>base<=b/\b<w.heap.size/\v.ownBlock≠some b) w x cs)(m:ds.length=l'.length/\(∀c∈ds,c.length=k)/\ ∀(i:Nat)(x:α)(cs:List Value),l'[i]? =some x->ds[i]? =some cs->R (fun b=>base<=b/\b<w.heap.size/\v.ownBlock≠some b) w x cs){g cap}(f:w'.ownsRow base T k (.slice (J g) (l.length+l'.length) cap) (l.length+l'.length) (css.flatten++ds.flatten))(d:w.grownBy w' v.ownBlock)(hat:v.ownBlock=some g\/g=w.heap.size):
 jD R k T base w' (.slice (J g) (l.length+l'.length) cap) (l++l'):=by
 have n:∀{y:α}{cs:List Value},R (fun b=>base<=b/\b<w.heap.size/\v.ownBlock≠some b) w y cs->R (fun b=>base<=b/\b<w'.heap.size/\(Value.slice (J g) (l.length+l'.length) cap).ownBlock≠some b) w' y cs:=fun o=>
  ok.kept o ((nW d).mono (fun b h=>h.2)) (fun b h=>⟨h.1,ab h.2.1 d.size,fun e=>by
   have e:g=b:=by simpa[Value.ownBlock]using e
   subst e
   obtain e|e:=hat
   .exact h.2.2 e
   .have:=h.2.1;omega⟩)
 refine⟨css++ds,by simp[h.1,m.1],fun c a=>?_,by rw[cG,al];exact f,fun i x cs j a=>?_⟩
 .obtain a|a:=bj.1 a
  .exact h.2.1 c a
  .exact m.2.1 c a
 .by_cases hi:i<l.length
  .rw[aF hi]at j
   rw[aF (by omega)]at a;exact n (h.2.2 i x cs j a)
  .rw[aY (by omega)]at j
   rw[aY (by omega),h.1]at a;exact n (m.2.2 _ x cs j a)
def qq{ops j o a}{Q:Exit->Act->World->Prop}{W α}{R:pB α}{k:Nat}(ok:kR k R){T q:TypeId}{z:Value}{d:Nat}(D:prog.underlying q=some (.slice T))(hT:(prog.info? T).map (fun i=>(i.zero,i.size,i.bytes))=some (some z,k,d))(hz:z.cells.size=k)(C:0<k)(E:d<=10000)(H:o.guard=none)(s x:Operand)(ho:o.op=.call {callee:=.builtin .append,args:=#[s,x],argTypes:=#[q,q]})(base:Nat)(w:World)(v:Value)(l:List α)(y:α)(cs:List Value)(hs:a.eval s=v)(hrow:jD R k T base w v l)(hW:W=w.alloc (.cells cs.toArray T))(p:a.eval x=.slice (J (w.heap.size)) 1 1)(hy:R (fun b=>base<=b/\b<w.heap.size/\v.ownBlock≠some b) w y cs)(hlen:l.length<=1000000)(hbase:base<=w.heap.size)(h:∀g cap w',jD R k T base w' (.slice (J g) (l.length+1) cap) (l++[y])->(∀B w0,B<=base->Below B w0 w->Below B w0 w')->gN (fun b=>b<w.heap.size/\v.ownBlock≠some b) w w'->w.heap.size<=w'.heap.size->wpList prog ops Q j (a.put o.dst (.slice (J g) (l.length+1) cap)) w'):
 wpList prog ops Q (o::j) a W:=by
 subst hW;have f:Below w w (w.alloc (.cells cs.toArray T)):=(TH _ _).alloc (aa _) _;have m:=hrow.go ok f;obtain⟨css,h1,h2,h3,X⟩:=id m;obtain⟨i,L,M,N,P⟩:=sd hT;have F:=ok.len hy
 refine eT H fun K hK=>?_
 refine wp_append_lies _ s x q ho base T i z k d D L M N P hz C v l.length css.flatten hs h3
  (J (w.heap.size)) 1 1 cs p (by omega) (World.news_of_block (cs:=cs.toArray) (t:=T) (fr:=(0,0)) (TL w _)) (ok.one hy)
  (by omega) (by unfold maxLen;omega) (af (cB (show l.length+1<=1000001 by omega) E) (by omega)) (af hbase f.size) _ rfl ?_
 intro S r w' u c hat hlt;refine hK _ _ (h S r w' ?_ ?_ ?_ (af f.size c.size))
 .refine jD.grown (l':=[y]) (ds:=[cs]) ok ⟨h1,h2,X⟩ ⟨rfl,by simpa using F,fun i x ds p A=>?_⟩ (by simpa using u) c hat
  match i,p,A with
  |0,p,A=>
   cases p;cases A;exact ok.kept hy (gE f|>.mono (fun b h=>h.2.1)) (fun b h=>⟨h.1,ab h.2.1 f.size,h.2.2⟩)
 .intro B w0 hB n
  refine(n.alloc (by omega) _).grown c (by have:=f.size;omega) (fun k C=>?_);have:=h3.lt k C;omega
 .intro b n
  exact(c.block b (ab n.1 f.size) (fun e=>n.2 e.symm)).trans (f.block b n.1)
def qU{ops d o a}{Q:Exit->Act->World->Prop}{W α}{R:pB α}{k:Nat}(ok:kR k R){T e:TypeId}{z:Value}{c:Nat}(f:prog.underlying e=some (.slice T))(n:(prog.info? T).map (fun i=>(i.zero,i.size,i.bytes))=some (some z,k,c))(r:z.cells.size=k)(p:0<k)(j:c<=10000)(m:o.guard=none)(s x:Operand)(q:o.op=.call {callee:=.builtin .append,args:=#[s,x],argTypes:=#[e,e]})(base:Nat)(w:World)(v:Value)(l:List α)(y:α)(cs:List Value)(hs:a.eval s=v)(hrow:jD R k T base w v l)(hW:W=w.alloc (.cells cs.toArray T))(hx:a.eval x=.slice (J (w.heap.size)) 1 1)(hy:R (fun b=>base<=b/\b<w.heap.size/\v.ownBlock≠some b) w y cs)(hlen:l.length<=1000000)(hbase:base<=w.heap.size)(h:∀g cap w',jD R k T base w' (.slice (J g) (l.length+1) cap) (l++[y])->(∀B w0,B<=base->Below B w0 w->Below B w0 w')->wpList prog ops Q d (a.put o.dst (.slice (J g) (l.length+1) cap)) w'):
 wpList prog ops Q (o::d) a W:=
 qq ok f n r p j m s x q base w v l y cs hs hrow hW hx hy hlen hbase (fun g cap w' h1 h2 _ _=>h g cap w' h1 h2)
section
variable{S:Nat->Prop}{P:Program}{ops:Array Oper}{Q:Exit->Act->World->Prop}{md:Region.Mode}
def LO(S:Nat->Prop)(P:Program)(md:Region.Mode)(ops:Array Oper)(Q:Exit->Act->World->Prop)(n:Nat):Nat->Array Bool->Act->World->Prop
 |0,listed,a,w=>Region.ready md ops listed=[]/\Q .normal a w
 |fuel+1,listed,a,w=>
  (Region.ready md ops listed=[]->Q .normal a w)/\
  ∀i∈Region.ready md ops listed,wpOp P ops Q i (fun a' w'=>(i<n->gN S w w')/\LO S P md ops Q n fuel (listed.setIfInBounds i true) a' w') a w
def yh{n:Nat}:∀(fuel:Nat)(b:Array Bool)(a:Act)(w:World),LO S P md ops Q n fuel b a w->wpAny P md ops Q fuel b a w
 |0,_,_,_,h=>h
 |fuel+1,_,_,_,h=>⟨h.1,fun i hi=>wpOp_mono (fun a' w' c=>yh fuel _ a' w' c.2) (h.2 i hi)⟩
def YieldsIf.stayK{o:Oper}{v:Value}{a:Act}{w w':World}(h:YieldsIf P ops (fun x=>gN S w x) o v a)(b:gN S w w'):
 YieldsIf P ops (fun x=>gN S w' x) o v a:=
 h.imp (fun⟨h1,h2⟩=>⟨h1,fun x c=>h2 x (b.trans c)⟩) id
def FN{n i:Nat}{q:Oper}{v:Value}(hi:ops[i]? =some q)(t:∀(j:Nat)(o:Oper) cs b,ops[j]? =some o->o.op≠ .select cs b)
 (hs:Region.sinkB md ops n=true)(T:Region.chainB md ops n=true)(hn:n<ops.size)(K:i<n)
 (N:∀c a w,Q (.panic c) (a.put q.dst v) w->Q (.panic c) a w):
 ∀(fuel:Nat)(d:Array Bool)(a:Act)(w:World),HeadInv md ops n d->
  (∀j r,ops[j]? =some r->j≠i->d.getD j true=false->(∀e∈r.after,Region.binds md e=true->e.on≠i)->q.apart ops r=true)->
  i∈Region.ready md ops d->YieldsIf P ops (fun x=>gN S w x) q v a->
  LO S P md ops Q n fuel (d.setIfInBounds i true) (a.put q.dst v) w->LO S P md ops Q n (fuel+1) d a w:=by
 intro fuel
 induction fuel with
 |zero=>
  intro d a w _ _ p B H;refine⟨fun h=>(by rw[h]at p;cases p),fun j u=>?_⟩
  by_cases f:j=i
  .subst f;exact B.wpOp hi (gN.refl _ _) ⟨fun _=>gN.refl _ _,H⟩
  .have:=ready_mono u f
   rw[H.1]at this;cases this
 |succ fuel ih=>
  intro d a w E g p B H;have m:=(mem_ready.1 p).1;refine⟨fun h=>(by rw[h]at p;cases p),fun j u=>?_⟩
  have D:j<n:=by
   obtain h|h:=dC j n
   .exact h
   .exact absurd u (tail_waits hs T hn E _ i rfl K m j h)
  by_cases f:j=i
  .subst f;exact B.wpOp hi (gN.refl _ _) ⟨fun _=>gN.refl _ _,H⟩
  .have h1:=H.2 j (ready_mono u f)
   obtain⟨s,r,y,z⟩:=mem_ready.1 u
   have A:∀e∈r.after,Region.binds md e=true->e.on≠i:=fun e W R F=>by
    have h1:=z e W R;rw[F,getD_both m]at h1;cases h1
   have h2:=wpOp_putIf y (g j r y f s A) (fun cs b=>t i q cs b hi) (fun cs b=>t j r cs b y) N B h1
   have l:∀k ok,ops[k]? =some ok->k≠i->(d.setIfInBounds j true).getD k true=false->
    (∀e∈ok.after,Region.binds md e=true->e.on≠i)->q.apart ops ok=true:=fun k ok X L m M=>by
    refine g k ok X L ?_ M
    by_cases C:j=k
    .subst C;exact s
    .rw[getD_set_ne true C]at m;exact m
   refine wpOp_mono (fun a' w' h3=>⟨h3.2.1,ih (d.setIfInBounds j true) a' w' (E.set u D) l (ready_mono p (fu f)) (YieldsIf.stayK h3.1 (h3.2.1 D)) ?_⟩) h2;rw[cC _ _ f];exact h3.2.2
def sU(S:Nat->Prop)(P:Program)(ops:Array Oper)(Q:Exit->Act->World->Prop)(n:Nat):List (Nat×Bool)->Act->World->Prop
 |[],a,w=>wpList P ops Q (ops.toList.drop n) a w
 |(i,true)::rest,a,w=>∃o v,ops[i]? =some o/\YieldsIf P ops (fun x=>gN S w x) o v a/\(∀c a w,Q (.panic c) (a.put o.dst v) w->Q (.panic c) a w)/\sU S P ops Q n rest (a.put o.dst v) w
 |(i,false)::rest,a,w=>wpOp P ops Q i (fun a' w'=>gN S w w'/\sU S P ops Q n rest a' w') a w
def yj{n:Nat}{Q':Exit->Act->World->Prop}:∀(l:List Oper)(k:Nat)(b:Array Bool)(a:Act)(w:World),n<=k->(∀j,l[j]? =ops[k+j]?)->
 Region.seqB md ops l.length k b=true->wpList P ops Q' l a w->LO S P md ops Q' n l.length b a w
 |[],_,_,_,_,_,_,hB,h=>⟨by simpa[Region.seqB]using hB,h⟩
 |o::l,k,b,a,w,hk,hl,hB,h=>by
  have h0:ops[k]? =some o:=by simpa using(hl 0).symm
  simp only[aH,Region.seqB,am,aD]at hB;refine⟨fun h1=>(by rw[hB.1]at h1;cases h1),fun i hi=>?_⟩;rw[hB.1]at hi
  have c:i=k:=by simpa using hi
  subst c
  have hw:wpOp P ops Q' i (wpList P ops Q' l) a w:=by unfold wpOp;simp only[h0];exact h
  exact wpOp_mono (fun a' w' d=>⟨fun hlt=>absurd hlt (by omega),yj l (i+1) _ a' w' (by omega) (fun j=>by have:=hl (j+1);simpa[cN,fA 1 j]using this) hB.2 d⟩) hw
def uf{n:Nat}(c:Region.noSelect ops=true)(k:Region.sinkB md ops n=true)(f:Region.chainB md ops n=true)(g:n<ops.size):
 ∀(ord:List (Nat×Bool))(b:Array Bool)(a:Act)(w:World),HeadInv md ops n b->vN md ops n ord b=true->sU S P ops Q n ord a w->
  LO S P md ops Q n (ord.length+(ops.size-n)) b a w
 |[],b,a,w,_,hB,h=>by
  have:=yj (S:=S) (md:=md) (n:=n) (Q':=Q) (ops.toList.drop n) n b a w (aa _) (fun j=>by simp[cp]) (by simpa[vN]using hB) h;simpa using this
 |(i,true)::rest,b,a,w,inv,hB,h=>by
  obtain⟨o,v,p,r,q,h⟩:=h;simp only[vN,bX,am,aD]at hB;obtain⟨⟨⟨h1,h2⟩,h3⟩,e⟩:=hB
  have d:i∈Region.ready md ops b:=by simpa using h1
  have:=FN p (Region.noSelect_spec c) k f g h3 q _ b a w inv (Region.free_spec p h2) d r (uf c k f g rest _ _ w (inv.set d h3) e h);rw[aH,show rest.length+1+(ops.size-n)=rest.length+(ops.size-n)+1 by omega];exact this
 |(i,false)::rest,b,a,w,inv,hB,h=>by
  simp only[vN,bC,de,am,aD]at hB;obtain⟨⟨h1,h3⟩,e⟩:=hB
  have d:i∈Region.ready md ops b:=by rw[h1];simp
  rw[aH,show rest.length+1+(ops.size-n)=rest.length+(ops.size-n)+1 by omega];refine⟨fun h0=>(by rw[h0]at h1;cases h1),fun j m=>?_⟩;rw[h1]at m
  obtain rfl:j=i:=by simpa using m
  exact wpOp_mono (fun a' w' l=>⟨fun _=>l.1,uf c k f g rest _ a' w' (inv.set d h3) e l.2⟩) h
def kC{id:Nat}{a:Act}{w:World}(n:Nat)(ord:List (Nat×Bool))(g:P.follows .mixedOrders=true)(e:wP .any ops n ord=true)
 (h:sU S P ops Q n ord a w.drew):(Code.region id ops true).wp P Q a w:=by
 simp only[wP,am,aD]at e;obtain⟨⟨⟨⟨⟨c,i⟩,b⟩,l⟩,f⟩,k⟩:=e
 have d:HeadInv .any ops n (Array.replicate ops.size false):=
  ⟨by simp,fun j o _ b=>(by rw[getD_replicate_false]at b;cases b),fun t _ m=>getD_in (by simpa using m) (getD_replicate_false _ _)⟩
 have:=uf (P:=P) (Q:=Q) c l f i ord _ a w.drew d k h;rw[b,show n+(ops.size-n)=ops.size by omega]at this;exact wp_region_any g (yh _ _ _ _ this)
def kQ{n i:Nat}{b:List (Nat×Bool)}{o:Oper}{v:Value}{a:Act}{w:World}(hi:ops.toList[i]? =some o)(d:∀c a w,Q (.panic c) (a.put o.dst v) w->Q (.panic c) a w)
 (hw:Region.wanted o (yielded ops a.tmps)=true)(e:∀x,gN S w x->(execOp a.eval o).run P x=.ok (.value v) x)
 (h:sU S P ops Q n b (a.put o.dst v) w):sU S P ops Q n ((i,true)::b) a w:=
 ⟨o,v,by rw[<- bc];exact hi,Or.inl ⟨hw,e⟩,d,h⟩
def iT{n i:Nat}{b:List (Nat×Bool)}{o:Oper}{a:Act}{w:World}(hi:ops.toList[i]? =some o)(c:o.guard=none)
 (h:∀K:Act->World->Prop,(∀a' w',gN S w w'->sU S P ops Q n b a' w'->K a' w')->o.wp P a w K Q):sU S P ops Q n ((i,false)::b) a w:=by
 have hw:Region.wanted o (yielded ops a.tmps)=true:=by simp[Region.wanted,c]
 rw[bc]at hi
 show wpOp P ops Q i _ a w
 unfold wpOp;simp only[hi,hw,bX];exact .inl (h _ fun a' w' h1 h2=>⟨h1,h2⟩)
def nK{n:Nat}{a:Act}{w:World}{l:List Oper}(b:ops.toList.drop n=l)(h:wpList P ops Q l a w):sU S P ops Q n [] a w:=by
 subst b;exact h
end
def IR.at3{N:Nat}{w:World}{a:Option Addr}{n c:Nat}{zs:List Int}(h:IR N w 3 a n c zs){k:Nat}(g:k<n):
 ∃b off,a=some ⟨b,off,none⟩/\b<N/\w.cell? ⟨b,off+k*3,none⟩=some (.int .i64 (zs.getD (k*3) 0))/\w.cell? ⟨b,off+k*3+1,none⟩=some (.int .i64 (zs.getD (k*3+1) 0))/\w.cell? ⟨b,off+k*3+2,none⟩=some (.int .i64 (zs.getD (k*3+2) 0)):=by
 obtain⟨b,off,e,f,d⟩:=h.2.2 (by omega);exact⟨b,off,e,f,d (k*3) (by omega),d (k*3+1) (by omega),d (k*3+2) (by omega)⟩
def Qw{zs:List Int}{n k:Nat}(c:zs.length=n*3)(b:k<n):zs.take ((k+1)*3)=zs.take (k*3)++[zs.getD (k*3) 0,zs.getD (k*3+1) 0,zs.getD (k*3+2) 0]:=by
 have e:∀j,j<zs.length->zs.take (j+1)=zs.take j++[zs.getD j 0]:=fun j a=>by
  rw[dV a];simp[ah,a]
 rw[show(k+1)*3=k*3+2+1 by omega,e _ (by omega),show k*3+2=k*3+1+1 by omega,e _ (by omega),e _ (by omega)];simp
def MJ(xs ys:List Int)(a b:Option Addr)(n m c d:Nat)(w:World)(p:IR w w 3 a n c xs)(q:IR w w 3 b m d ys)(M:n<=1000000)(L:m<=1000000):
 Calls prog 241 #[Z a n c,Z b m d] w (iZ w (.bool (decide (xs=ys)))):=by
 have B:=p.1;have C:=q.1;have F:=O p;have H:=O q;have j:=O B;have o:=O C;clear p q B C
 by_cases l:n=m
 .subst l
  go_enter func241,ntmps241
  go_wp2_with fail
  go_loopw [13] (fun r wr=>∃k:Nat,k<=n/\r=.int .i64 (k:Int)/\xs.take (k*3)=ys.take (k*3)/\Below w w wr) (fun r _=>n-(intOf r).toNat)
  case atStart=>exact⟨0,aA _,rfl,by simp,TH _ _⟩
  case round=>
   obtain⟨k,K,rfl,A,y⟩:=hrel;have t:=O A;have i:=O y;clear A y
   by_cases g:k<n
   .obtain⟨b1,Q,rfl,l1,S,x1,x2⟩:=(F.go i).at3 g
    obtain⟨b2,R,rfl,P,T,y1,y2⟩:=(H.go i).at3 g;have D:=Qw j g;have ty:=Qw o g;generalize xs.getD (k*3) 0=p0 at*;generalize xs.getD (k*3+1) 0=p1 at*;generalize xs.getD (k*3+2) 0=p2 at*;generalize ys.getD (k*3) 0=q0 at*;generalize ys.getD (k*3+1) 0=q1 at*;generalize ys.getD (k*3+2) 0=q2 at*;have u:=O D;have v:=O ty;clear D ty
    have h:(p0=q0/\p1=q1/\p2=q2)\/ ¬(p0=q0/\p1=q1/\p2=q2)/\(((p0==q0)=false)\/(p0=q0/\(p1==q1)=false)\/(p0=q0/\p1=q1/\(p2==q2)=false)):=by
     simp only[ak];omega
    obtain ⟨rfl,rfl,rfl⟩|⟨f,hw⟩:=h
    .go_wp2_with fail
     go_quiet (fail)
     go_wp2_with fail
     go_roundw
     case rel=>exact⟨k+1,by omega,by go_num,by rw[u,v,t],gV i _⟩
     case measure=>simp[intOf];omega
    .have z:xs≠ys:=fun e=>f (by
      have h1:=u.out;have h2:=v.out;rw[e]at h1;have h3:=h1.symm.trans h2;have x:=List.append_cancel_left h3;simp at x
      exact x)
     have E:=O z;clear f z
     obtain h1|⟨rfl,h1⟩|⟨rfl,rfl,h1⟩:=hw
     all_goals
      go_wp2_with fail
      go_quiet (fail)
      go_wp2;go_ret;exact⟨by rw[aw E.out];rfl,gV i _⟩
   .obtain rfl:k=n:=by omega
    go_wp2;go_ret;refine⟨?_,i⟩;have:=t.out;rw[<- j,bf,j,<- o,bf]at this;simp[this]
 .have N:((n:Int) !=(m:Int))=true:=by simp;omega
  have f:xs≠ys:=fun e=>l (by have:=j.out;have:=o.out;subst e;omega)
  have s:=O f;clear f
  go_enter func241,ntmps241
  go_wp2;go_ret;exact⟨by rw[aw s.out];rfl,TH _ _⟩
def BI{a b:ByteArray}(h:a.toList=b.toList):a=b:=by
 rw[ByteArray.toList_eq,ByteArray.toList_eq]at h;exact fj (fU h)
def MK{s t:gW}(l:s.kind=t.kind)(m:s.curv=t.curv)(n:s.conic=t.conic)(o:s.curvX=t.curvX)(p:s.conicX=t.conicX)(q:s.order=t.order)(r:s.thick=t.thick)(u:s.semi=t.semi)(v:s.hole=t.hole)(a:s.dx=t.dx)(b:s.dy=t.dy)(c:s.ax=t.ax)(d:s.ay=t.ay)(e:s.az=t.az)
 (f:s.a0=t.a0)(g:s.a1=t.a1)(h:s.a2=t.a2)(d18:s.a3=t.a3)(i:s.p0=t.p0)(j:s.p1=t.p1)(k:s.glass.toList=t.glass.toList):s=t:=by
 have:=BI k;cases s;cases t;simp only[gW.mk.injEq];exact⟨l,m,n,o,p,f,g,h,d18,i,j,q,r,this,u,v,a,b,c,d,e⟩
def ni{g:Nat}{s:gW}{a:Option Addr}{n c:Nat}{b:Act}{o:Oper}{x:Operand}{w:World}(h:Y w g s a n c)(d:o.op=.load 70 x)(e:b.eval x=.pointer (J g)):
 (execOp b.eval o).run prog w=.ok (.value (.agg (⟨s,a,n,c⟩:jt))) w:=by
 unfold execOp;simp only[d,e,Instr.loadAt,Instr.sureAddr,bR,cT,bU,run_loadVar_mid w g 0 70 [s.kind,s.curv,s.conic,s.curvX,s.conicX,s.a0,s.a1,s.a2,s.a3,s.p0,s.p1,s.order,s.thick,s.glass,s.semi,s.hole,s.dx,s.dy,s.ax,s.ay,s.az,Z a n c] _ h.range underlying70 rfl Tryz.infoSurf]
def Ei(d:Nat){e:TypeId}{k':IntKind}(b:prog.underlying e=some (.int k'))(xs ys:List Int)(n:Nat)(f:xs.length=n)(g:ys.length=n)(w:World):∀a:List Nat,(∀j∈a,j<n)->
 (Op.eqItems (d+1) e 1 (xs.map (Value.int .i64)).toArray (ys.map (Value.int .i64)).toArray a).run prog w=.ok (a.all fun j=>xs.getD j 0==ys.getD j 0) w
 |[],_=>rfl
 |j::a,h=>by
  have m:j<n:=h j (aG ..);have k:=Ei d b xs ys n f g w a (fun i hi=>h i (au _ hi))
  have c:prog.plainKey e=true:=by simp[Program.plainKey,b]
  have p1:=run_part_plain (P:=prog) w c (xs:=(xs.map (Value.int .i64)).toArray) (off:=j*1) (v:=.int .i64 (xs.getD j 0)) (by simp[show j<xs.length by omega,ah]);have l:=run_part_plain (P:=prog) w c (xs:=(ys.map (Value.int .i64)).toArray) (off:=j*1) (v:=.int .i64 (ys.getD j 0)) (by simp[show j<ys.length by omega,ah]);simp only[Op.eqItems,bR,p1,l,bU,run_equalIn_int w d e .i64 k' _ _ b]
  cases hc:(xs.getD j 0==ys.getD j 0)with
  |true=>simp only[gf,bC,de,fh,hc,Bool.true_and];exact k
  |false=>simp only[fT,bX,cT,fh,hc,Bool.false_and]
def QK{xs ys:List Int}{n:Nat}(a:xs.length=n)(b:ys.length=n):((List.range n).all fun j=>xs.getD j 0==ys.getD j 0)=decide (xs=ys):=by
 rw[bJ,an,aD];constructor
 .intro h
  apply List.ext_getElem (by omega)
  intro i h1 h2;have:=h i (aJ.2 (by omega));simpa[ah,h1,h2]using this
 .rintro rfl j _
  simp
def sk(d:Nat){t e:TypeId}{n:Nat}{k':IntKind}(h:prog.underlying t=some (.array n e))(hi:(prog.info? e).isSome=true)(f:prog.underlying e=some (.int k'))(c:prog.cellsOf e=1)(xs ys:List Int)(a:xs.length=n)(b:ys.length=n)(w:World):
 (Op.equalIn (d+2) t (.agg (xs.map (Value.int .i64)).toArray) (.agg (ys.map (Value.int .i64)).toArray)).run prog w=.ok (decide (xs=ys)) w:=by
 obtain⟨i,hi⟩:=eL.1 hi;rw[run_equalIn_array w (d+1) _ _ h hi,c,Ei d f xs ys n a b w (List.range n) (fun j g=>aJ.1 g),QK a b]
def Sl(s t:gW)(w:World):(Op.equalIn 9999 315 (.agg #[s.kind,s.curv,s.conic,s.curvX,s.conicX,s.order,s.thick,s.semi,s.hole,s.dx,s.dy,s.ax,s.ay,s.az,oZ,oZ]) (.agg #[t.kind,t.curv,t.conic,t.curvX,t.conicX,t.order,t.thick,t.semi,t.hole,t.dx,t.dy,t.ax,t.ay,t.az,oZ,oZ])).run prog w=.ok (decide ([s.kind,s.curv,s.conic,s.curvX,s.conicX,s.order,s.thick,s.semi,s.hole,s.dx,s.dy,s.ax,s.ay,s.az,0,0]=[t.kind,t.curv,t.conic,t.curvX,t.conicX,t.order,t.thick,t.semi,t.hole,t.dx,t.dy,t.ax,t.ay,t.az,0,0])) w:=
 sk 9997 (n:=16) (k':=.i64) underlying315 (by kernel_rfl) underlying3 (by kernel_rfl) [s.kind,s.curv,s.conic,s.curvX,s.conicX,s.order,s.thick,s.semi,s.hole,s.dx,s.dy,s.ax,s.ay,s.az,0,0] [t.kind,t.curv,t.conic,t.curvX,t.conicX,t.order,t.thick,t.semi,t.hole,t.dx,t.dy,t.ax,t.ay,t.az,0,0] rfl rfl w
def Tz(s t:gW)(w:World):(Op.equalIn 9999 64 (.agg #[s.a0,s.a1,s.a2,s.a3]) (.agg #[t.a0,t.a1,t.a2,t.a3])).run prog w=.ok (decide ([s.a0,s.a1,s.a2,s.a3]=[t.a0,t.a1,t.a2,t.a3])) w:=
 sk 9997 (n:=4) (k':=.i64) underlying64 (by kernel_rfl) underlying3 (by kernel_rfl) [s.a0,s.a1,s.a2,s.a3] [t.a0,t.a1,t.a2,t.a3] rfl rfl w
def TA(s t:gW)(w:World):(Op.equalIn 9999 65 (.agg #[s.p0,s.p1]) (.agg #[t.p0,t.p1])).run prog w=.ok (decide ([s.p0,s.p1]=[t.p0,t.p1])) w:=
 sk 9997 (n:=2) (k':=.i64) underlying65 (by kernel_rfl) underlying3 (by kernel_rfl) [s.p0,s.p1] [t.p0,t.p1] rfl rfl w
def J7(s t:gW)(xs ys:List Int)(a b:Option Addr)(n m c d:Nat)(w:World)(hx:IR w w 3 a n c xs)(f:IR w w 3 b m d ys)(hn:n<=1000000)(hm:m<=1000000):
 Calls prog 201 #[.agg (⟨s,a,n,c⟩:jt),.agg (⟨t,b,m,d⟩:jt)] w (iZ w (.bool (decide (s=t)&&decide (xs=ys)))):=by
 obtain⟨e1,e2⟩:=iN w (.cells (⟨s,a,n,c⟩:jt) 70) (.cells (⟨t,b,m,d⟩:jt) 70);have A:=iH (w:=w) (.cells (⟨s,a,n,c⟩:jt) 70) (.cells (⟨t,b,m,d⟩:jt) 70);have Hx:=O hx;have Hy:=O f;have R:=O e1;have S:=O e2;have T:=O A;clear hx f e1 e2 A
 go_enter func201,ntmps201
 go_wp2_with fail
 refine gI (fun Q=>Y Q w s a n c/\Y Q (w+1) t b m d/\Below w w Q) ⟨R,S,T⟩ ?_;clear R S T;rintro x ⟨h1,h2,A⟩;have B:=h1.lt;have C:=h2.lt
 by_cases H:s=t
 .subst H
  refine ic 15 [] [] [(0,true),(1,true),(3,true),(4,true),(2,false),(5,false),(6,true),(7,true),(8,true),(9,true),(10,true),(11,true),(12,false),(13,true),(14,true)] (by kernel_rfl) (by kernel_rfl) ⟨by simp,by simp,fun _ h=>by cases h⟩ (fun _ _ _ _ _ h=>h) (fun _ _ o _ _ h=>by cases o<;>exact h) ?_;refine gZ (v:=?_) rfl rfl (by rfl) ?_ ?_;rotate_left
  .intro y f
   go_simp
   with_reducible rfl
  refine gZ rfl rfl (by rfl) (fun y f=>ni (Y.go h1 (gJ (k:=1) f) B) rfl rfl) ?_;refine gZ (v:=?_) rfl rfl (by rfl) ?_ ?_;rotate_left
  .intro y f
   go_simp
   with_reducible rfl
  refine gZ rfl rfl (by rfl) (fun y f=>ni (Y.go h2 (gJ (k:=1) f) C) rfl rfl) ?_
  try simp only[V]
  refine iK rfl rfl (fun x1 r K i=>?_);go_simp;refine(uv s a n c _).mono ?_;rintro e w2 ⟨rfl,j⟩;refine i _ _ j ?_;clear i K;refine iK rfl rfl (fun x2 u K i=>?_);go_simp;refine(uv s b m d _).mono ?_;rintro e P ⟨rfl,l⟩;refine i _ _ l ?_;clear i K
  try simp only[V]
  have q:Below x x x1:=gJ (k:=1) r;have g:Below x x P:=I (I (I q j) u) l;have E:=Y.go h1 g B;have g2:=Y.go h2 g C;refine gZ (v:=.bool true) rfl rfl (by rfl) ?_ ?_
  .intro y f
   have a9:=Sl s s y;have q4:=Tz s s y;have q2:=TA s s y;unfold uu;go_simp
  try simp only[V]
  refine iy (v:=?_) rfl (by rfl) ?_ ?_;rotate_left
  .intro z
   go_simp
   with_reducible rfl
  try simp only[V]
  iterate 4
   refine gZ (v:=?_) rfl rfl (by rfl) ?_ ?_;rotate_left
   .intro y f
    obtain⟨y0,y1,y2,y3,y4,y5,y6,y7,y8,y9,b0,b1,b2,b3,b4,b5,b6,b7,b8,b9,c0,c1⟩:=Y.cells (Y.go E f E.lt);obtain⟨z0,z1,z2,z3,z4,z5,z6,z7,z8,z9,c2,c3,c4,c5,c6,c7,c8,c9,d0,e0,e3,e4⟩:=Y.cells (Y.go g2 f g2.lt);go_simp
    with_reducible rfl
   try simp only[V]
  refine kH rfl (by rfl) (fun x3 M K i=>?_);go_simp;have D:Below w w x3:=I A (g.trans (M.mono g.size));refine(MJ xs ys a b n m c d _ (Hx.go D) (Hy.go D) hn hm).mono ?_;rintro e w4 ⟨rfl,F⟩;refine i _ _ F ?_;clear i K
  try simp only[V]
  iterate 2
   refine iy (v:=?_) rfl (by rfl) ?_ ?_;rotate_left
   .intro z
    go_simp
    with_reducible rfl
   try simp only[V]
  refine jV rfl (fun w5 p=>?_);have N:=O (I (I D F) p);clear A j l F p r u M q g D E g2 h1 h2;go_wp2;go_ret;exact⟨by simp,N⟩
 .have L:=O H;clear H
  refine ic 15 [] [] [(0,true),(1,true),(3,true),(4,true),(2,false),(5,false),(6,true),(7,true),(8,true),(9,true),(10,true),(11,true),(12,true),(13,true),(14,true)] (by kernel_rfl) (by kernel_rfl) ⟨by simp,by simp,fun _ h=>by cases h⟩ (fun _ _ _ _ _ h=>h) (fun _ _ o _ _ h=>by cases o<;>exact h) ?_;refine gZ (v:=?_) rfl rfl (by rfl) ?_ ?_;rotate_left
  .intro y f
   go_simp
   with_reducible rfl
  refine gZ rfl rfl (by rfl) (fun y f=>ni (Y.go h1 (gJ (k:=1) f) B) rfl rfl) ?_;refine gZ (v:=?_) rfl rfl (by rfl) ?_ ?_;rotate_left
  .intro y f
   go_simp
   with_reducible rfl
  refine gZ rfl rfl (by rfl) (fun y f=>ni (Y.go h2 (gJ (k:=1) f) C) rfl rfl) ?_
  try simp only[V]
  refine iK rfl rfl (fun x1 r K i=>?_);go_simp;refine(uv s a n c _).mono ?_;rintro e w2 ⟨rfl,j⟩;refine i _ _ j ?_;clear i K;refine iK rfl rfl (fun x2 u K i=>?_);go_simp;refine(uv t b m d _).mono ?_;rintro e P ⟨rfl,l⟩;refine i _ _ l ?_;clear i K
  try simp only[V]
  have q:Below x x x1:=gJ (k:=1) r;have g:Below x x P:=I (I (I q j) u) l;have E:=Y.go h1 g B;have g2:=Y.go h2 g C;refine gZ (v:=.bool false) rfl rfl (by rfl) ?_ ?_
  .intro y f
   have a9:=Sl s t y;have q4:=Tz s t y;have q2:=TA s t y;unfold uu;go_simp;intro d1 d2 d3 d4 d5 d6 d7 d8 d9 W X a0 a1 a2 a3 a4 a5 d18 a6 a7 a8;exact L (MK d1 d2 d3 d4 d5 d6 d7 d8 d9 W X a0 a1 a2 a3 a4 a5 d18 a6 a7 a8)
  try simp only[V]
  refine iy (v:=?_) rfl (by rfl) ?_ ?_;rotate_left
  .intro z
   go_simp
   with_reducible rfl
  try simp only[V]
  iterate 5
   refine nh rfl (by rfl) ?_
   try simp only[V]
  iterate 2
   refine iy (v:=?_) rfl (by rfl) ?_ ?_;rotate_left
   .intro z
    go_simp
    with_reducible rfl
   try simp only[V]
  refine jV rfl (fun w5 p=>?_);have N:=O (I A (g.trans (p.mono g.size)));clear A j l p r u q g E g2 h1 h2;go_wp2;go_ret;exact⟨by simp[L.out],N⟩
def rK(s:gW)(zs:List Int):Bool:=!jr 1 4 [s.kind]&& (decide (s=rJ s)&&decide (zs=if s.kind<=2 then zs else[]))
def Ej{k}(h:(!jr 1 4 [k])=true):1<=k/\k<=4:=by
 simp[jr]at h;omega
def BK(s zs a n c g w)(h:Y w g s a n c)(F:IR w w 3 a n c zs)(R:n<=1000000):
 Calls prog 199 #[U g] w (iZ w (.bool (rK s zs))):=by
 have P:=h.lt
 cases h1:(!jr 1 4 [s.kind])with
 |false=>
  have t:=O h1;clear h1 F
  go_enter func199,ntmps199
  go_wp2_with fail
  refine ic 11 [] [] [(0,true),(1,true),(2,false),(3,false),(4,true),(5,true),(6,true),(7,true),(8,true),(9,true),(10,true)] (by kernel_rfl) (by kernel_rfl) ⟨by simp,by simp,fun _ h=>by cases h⟩ (fun _ _ _ _ _ h=>h) (fun _ _ o _ _ h=>by cases o<;>exact h) ?_
  iterate 2
   refine gZ (v:=?_) rfl rfl (by rfl) ?_ ?_;rotate_left
   .intro y E
    obtain⟨y0,y1,y2,y3,y4,y5,y6,y7,y8,y9,W,X,a0,a1,a2,a3,a4,a5,a6,a7,a8,a9⟩:=Y.cells (Y.go h (gJ (k:=1) E) P);go_simp
    with_reducible rfl
   try simp only[V]
  refine iK rfl rfl (fun x1 q K b=>?_);go_simp;refine b _ _ ((TH _ _).alloc (aa _) _) ?_;clear b K
  try simp only[V]
  refine iK rfl rfl (fun x2 i K b=>?_);go_simp;have f:Below w w x1:=gJ (k:=1) q;have m:Below w w x2:=f.trans ((mA i).mono f.size);have l:SL x2 x2 (J (x1.heap.size)) 1 1 [s.kind]:=(SY rfl).go i;refine(pz 1 4 [s.kind] _ 1 1 _ l (by omega)).mono ?_;rintro e w2 ⟨A,d⟩;rw[t]at A;subst A;refine b _ _ d ?_;clear b K
  try simp only[V]
  refine iy (v:=?_) rfl (by rfl) ?_ ?_;rotate_left
  .intro z
   go_simp
   with_reducible rfl
  try simp only[V]
  iterate 4
   refine nh rfl (by rfl) ?_
   try simp only[V]
  iterate 2
   refine iy (v:=?_) rfl (by rfl) ?_ ?_;rotate_left
   .intro z
    go_simp
    with_reducible rfl
   try simp only[V]
  refine jV rfl (fun w5 H=>?_);have N:=O (I (I m d) H);clear d H q i f m l h;go_wp2;go_ret;exact⟨by unfold rK;rw[t];rfl,N⟩
 |true=>
  have t:=O h1;clear h1
  go_enter func199,ntmps199
  go_wp2_with fail
  have Q:=Ej t;refine ic 11 [] [] [(0,true),(1,true),(2,false),(3,false),(4,true),(5,true),(6,true),(7,false),(8,false),(9,true),(10,true)] (by kernel_rfl) (by kernel_rfl) ⟨by simp,by simp,fun _ h=>by cases h⟩ (fun _ _ _ _ _ h=>h) (fun _ _ o _ _ h=>by cases o<;>exact h) ?_
  iterate 2
   refine gZ (v:=?_) rfl rfl (by rfl) ?_ ?_;rotate_left
   .intro y E
    obtain⟨y0,y1,y2,y3,y4,y5,y6,y7,y8,y9,W,X,a0,a1,a2,a3,a4,a5,a6,a7,a8,a9⟩:=Y.cells (Y.go h (gJ (k:=1) E) P);go_simp
    with_reducible rfl
   try simp only[V]
  refine iK rfl rfl (fun x1 q K b=>?_);go_simp;refine b _ _ ((TH _ _).alloc (aa _) _) ?_;clear b K
  try simp only[V]
  refine iK rfl rfl (fun x2 i K b=>?_);go_simp;have f:Below w w x1:=gJ (k:=1) q;have m:Below w w x2:=f.trans ((mA i).mono f.size);have l:SL x2 x2 (J (x1.heap.size)) 1 1 [s.kind]:=(SY rfl).go i;refine(pz 1 4 [s.kind] _ 1 1 _ l (by omega)).mono ?_;rintro e w2 ⟨A,d⟩;rw[t]at A;subst A;refine b _ _ d ?_;clear b K
  try simp only[V]
  refine iy (v:=?_) rfl (by rfl) ?_ ?_;rotate_left
  .intro z
   go_simp
   with_reducible rfl
  try simp only[V]
  have p:=I m d
  iterate 2
   refine gZ rfl rfl (by rfl) (fun y E=>ni (Y.go h (p.trans (E.mono p.size)) P) rfl rfl) ?_
  try simp only[V]
  refine kH rfl (by rfl) (fun x3 D K b=>?_);go_simp;refine(MI s a n c _ Q.1 Q.2).mono ?_;rintro e w4 ⟨a',n',c',⟨rfl,u⟩,j⟩;refine b _ _ u ?_;clear b K;have C:=p.trans ((D.trans (u.mono D.size)).mono p.size)
  try simp only[V]
  refine kH rfl (by rfl) (fun T M K b=>?_);go_simp;have r:=C.trans (M.mono C.size)
  have B:IR T T 3 a' n' c' (if s.kind<=2 then zs else[])/\n'<=1000000:=by
   obtain ⟨S,rfl,rfl,rfl⟩|⟨S,rfl,rfl,rfl⟩:=j
   .rw[aq S];exact⟨F.go r,R⟩
   .rw[aj (by omega)];exact⟨IR.nil _ _ _ _ _,by omega⟩
  refine(J7 s (rJ s) zs _ a a' n n' c c' _ (F.go r) B.1 R B.2).mono ?_;rintro e w6 ⟨rfl,x⟩;refine b _ _ x ?_;clear b K
  try simp only[V]
  iterate 2
   refine iy (v:=?_) rfl (by rfl) ?_ ?_;rotate_left
   .intro z
    go_simp
    with_reducible rfl
   try simp only[V]
  refine jV rfl (fun w7 L=>?_);have N:=O (I (I r x) L);clear d u x L q i D M f m p C r l h F B j;go_wp2;go_ret;exact⟨by unfold rK;rw[t];simp,N⟩
end Go.Proofs.YtgohdcccfkjooaaGreatDoor
