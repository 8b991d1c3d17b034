import Derived.Test.YtlnbjinneegciaaGreatDoorOAN
namespace Go.Proofs.YtlnbjinneegciaaGreatDoor
set_option linter.all false
set_option maxRecDepth 100000
set_option maxHeartbeats 6400000
open Go.Proofs.Tryz Go.RowKit
structure Ro where
 s:Int
 p:Int
 v:Int
def Rp:pB Ro:=fun _ _ x cs=>cs=[.int .u8 x.s,.int .u8 x.p,.int .i16 x.v]/\og x.s/\og x.p/\qD x.v
def QA:kR 3 Rp where
 len:=by rintro S w x cs ⟨rfl,_⟩;rfl
 kept:=by rintro S T w w' x cs h _ _;exact h
 one:=by rintro S w x cs ⟨rfl,_⟩ v a;simp only[aS,bi,cR]at a;obtain rfl|rfl|rfl:=a<;>rfl
def JA:pB (List Ro):=fun S w l cs=>∃a n c,cs=[.slice a n c]/\RR Rp 3 S w a n c l
def Id:kR 1 JA where
 len:=by rintro S w x cs ⟨a,n,c,rfl,_⟩;rfl
 kept:=by rintro S T w w' x cs ⟨a,n,c,e,h⟩ d f;exact⟨a,n,c,e,h.kept QA d f⟩
 one:=by rintro S w x cs ⟨a,n,c,rfl,_⟩ v b;simp only[aS,bi,cR]at b;subst b;rfl
structure rz where
 surfs:List tz
 stop:Int
 far:Int
 p9:Int
 fields:List Int
 waves:List Int
 i4:Int
 t7:Int
 puts:List (List Ro)
structure xU (S:Nat->Prop) (w:World) (x:rz) (s f v k:iJ):Prop where
 s:RR Rg 22 S w s.a s.n s.c x.surfs
 f:BR S w f.a f.n f.c x.fields
 v:BR S w v.a v.n v.c x.waves
 k:RR JA 1 S w k.a k.n k.c x.puts
 stop:og x.stop
 far:Ci x.far
 p9:og x.p9
 i4:og x.i4
 t7:qD x.t7
def xU.kept{S T:Nat->Prop}{w w':World}{x:rz}{s f v k:iJ}(h:xU S w x s f v k)(a:gN S w w')(c:∀b,S b->T b):xU T w' x s f v k:=
 ⟨h.s.kept Sy a c,h.f.kept a c,h.v.kept a c,h.k.kept Id a c,h.stop,h.far,h.p9,h.i4,h.t7⟩
def lI(x:rz)(s f v k:iJ):List Value:=[.slice s.a s.n s.c,.int .u8 x.stop,.int .u16 x.far,.int .u8 x.p9,.slice f.a f.n f.c,.slice v.a v.n v.c,.int .u8 x.i4,.int .i16 x.t7,.slice k.a k.n k.c]
abbrev EW(x:rz)(s f v k:iJ):Value:=.agg #[Z s.a s.n s.c,.int .u8 x.stop,.int .u16 x.far,.int .u8 x.p9,Z f.a f.n f.c,Z v.a v.n v.c,.int .u8 x.i4,.int .i16 x.t7,Z k.a k.n k.c]
def oU(w:World)(g:Nat)(x:rz)(s f v k:iJ):Prop:=w.heap[g]? =some (.cells (lI x s f v k).toArray 28 (0,0))
def oU.lt{w:World}{g:Nat}{x:rz}{s f v k:iJ}(h:oU w g x s f v k):g<w.heap.size:=TK h
def oU.go{w w':World}{g:Nat}{x:rz}{s f v k:iJ}(h:oU w g x s f v k)(a:Below w w w'):oU w' g x s f v k:=(a.block g h.lt).trans h
def oU.cells{w:World}{g:Nat}{x:rz}{s f v k:iJ}(h:oU w g x s f v k):
 w.cell? (J g)=some (.slice s.a s.n s.c)/\w.cell? ⟨g,1,none⟩=some (.int .u8 x.stop)/\w.cell? ⟨g,2,none⟩=some (.int .u16 x.far)/\w.cell? ⟨g,3,none⟩=some (.int .u8 x.p9)/\w.cell? ⟨g,4,none⟩=some (.slice f.a f.n f.c)/\
 w.cell? ⟨g,5,none⟩=some (.slice v.a v.n v.c)/\w.cell? ⟨g,6,none⟩=some (.int .u8 x.i4)/\w.cell? ⟨g,7,none⟩=some (.int .i16 x.t7)/\w.cell? ⟨g,8,none⟩=some (.slice k.a k.n k.c):=by
 unfold oU lI at h;refine⟨?_,?_,?_,?_,?_,?_,?_,?_,?_⟩ <;>simp[World.cell?,h]
def oU.range{w:World}{g:Nat}{x:rz}{s f v k:iJ}(h:oU w g x s f v k):w.rangeAt g 0 (lI x s f v k):=by
 intro j v a;rw[VV h];simpa using a
def oU.new(w:World)(x:rz)(s f v k:iJ):oU (w.alloc (.cells (lI x s f v k).toArray 28)) w x s f v k:=TL w _
def Tryz.infoDrL:(prog.info? 28).map (·.size)=some 9:=by kernel_rfl
def sK{ops:Array Oper}{a:List Oper}{c:Oper}{d:Act}{w:World}{Q:Exit->Act->World->Prop}{b o:Nat}{x:rz}{s f v k:iJ}(h:w.rangeAt b o (lI x s f v k))(e:c.guard=none)(y:Operand)(i:c.op=.load 28 y)
 (j:d.eval y=.pointer (some ⟨b,o,none⟩))(g:wpList prog ops Q a (d.put c.dst (EW x s f v k)) w):wpList prog ops Q (c::a) d w:=
 wpList_load_mid e 28 y i b o j (lI x s f v k) _ h underlying28 rfl Tryz.infoDrL g
def uP(x:rz):Int:=100000*(x.far%10001)
def yJ{x:rz}(a:Ci x.far):0<=uP x/\uP x<=1000000000:=by
 unfold uP;have:=dq x.far (by omega:(10001:Int)≠0);have:=da x.far (by omega:(0:Int) <10001);omega
def JB(x:rz)(s f v k:iJ)(w:World)(hf:Ci x.far):
 Calls prog 47 #[EW x s f v k] w (iZ w (.int .i64 (uP x))):=by
 have d:=yJ hf;obtain⟨h0,h1⟩:=hf;have b:=O (oU.new w x s f v k);have a:=O ((TH w w).alloc (aa _) (.cells (lI x s f v k).toArray 28));go_enter func47,ntmps47;go_upto_region 1 with fail;refine gI (fun e=>oU e w x s f v k/\Below w w e) ⟨b,a⟩ ?_;clear b a;rintro l ⟨c,g:HQ _⟩;have j:=c.lt;obtain⟨-,-,c2,-,-,-,-,-,-⟩:=c.cells;clear c;have h:0<=x.far%10001:=dq _ (by omega);have i:x.far%10001<10001:=da _ (by omega);clear d;go_wp2;go_ret;exact⟨rfl,g⟩
def EX{zs:List Int}{i:Nat}{a b:Int}(g:zs.length=i*2)(h:(List.range i).all (jM zs)=true)(m:jR zs i<a)(l:a<=2500000)(n:1<=b/\b<=100):(List.range (i+1)).all (jM (zs++[a,b]))=true:=by
 rw[an];intro j d;have d:=aJ.1 d
 have c:∀j,j<=i->jR (zs++[a,b]) j=jR zs j:=by
  intro j d;unfold jR;split
  .rfl
  .rw[kB (by omega)]
 by_cases e:j<i
 .have:=an.1 h j (aJ.2 e)
  unfold jM at*;rw[kB (by omega),kB (by omega),c j (by omega)];exact this
 .obtain rfl:j=i:=by omega
  unfold jM;have e0:=mb (ys:=[a,b]) (j:=0) g;have k:=mb (ys:=[a,b]) (j:=1) g;rw[bE]at e0;rw[e0,k,c j (aa _)]
  have f:bt b 1 100=true:=by unfold bt;simp;omega
  simp[m,l,f]
def xV(zs:List Int)(n:Nat):Prop:=∀j,j<n->400000<=zs.getD (j*2) 0/\zs.getD (j*2) 0<=700000
def zR{zs:List Int}{i:Nat}{a b:Int}(c:zs.length=i*2)(h:xV zs i)(h0:400000<=a)(h1:a<=700000):xV (zs++[a,b]) (i+1):=by
 intro j d;by_cases e:j=i
 .subst e
  have e0:=mb (ys:=[a,b]) (j:=0) c;rw[bE]at e0;rw[e0];exact⟨h0,h1⟩
 .rw[kB (by omega)];exact h j (by omega)
def Rq(w:World)(e:Ending)(w':World):Prop:=
 ∃a n c zs,e=.returned (.slice a n c)/\IRp (fun b=>w.heap.size<=b/\b<w'.heap.size) w' 2 a n c zs/\(a=none->c=0)/\1<=n/\n<=5/\(List.range n).all (jM zs)=true/\xV zs n/\Below w w w'
def Ie(x:rz)(s f v k:iJ)(w:World)(hf:BR (fun b=>b<w.heap.size) w v.a v.n v.c x.waves):
 Calls prog 46 #[EW x s f v k] w (Rq w):=by
 obtain⟨L,n,M⟩:=v;have Hf:=O hf;clear hf;have Q:=O (oU.new w x s f ⟨L,n,M⟩ k);have N:=O ((TH w w).alloc (aa _) (.cells (lI x s f ⟨L,n,M⟩ k).toArray 28));go_enter func46,ntmps46;go_upto_region 1 with fail;refine gI (fun wx=>oU wx w x s f ⟨L,n,M⟩ k/\Below w w wx) ⟨Q,N⟩ ?_;clear Q N;rintro w1 ⟨u,E⟩;have hl:=u.lt;have H:=O u;have P:=O E;clear u E;go_wp2
 go_loopw [3,4,5] (fun v a0 W wr=>∃(i:Nat)(zs:List Int)(m:Int),i<=5/\W=.int .i64 (i:Int)/\a0=.int .i64 m/\400000<=m/\m<=400000+52000*i/\jR zs i<=m/\wr.ownsRow (w+1) 93 2 v i (zs.map (Value.int .i64))/\(List.range i).all (jM zs)=true/\xV zs i/\oU wr w x s f ⟨L,n,M⟩ k/\Below w w wr) (fun _ _ W _=>5-(intOf W).toNat)
 case atStart=>exact⟨0,[],400000,by omega,rfl,rfl,by omega,by omega,by simp[jR],⟨rfl,VR ⟨rfl,rfl⟩⟩,rfl,fun j h=>absurd h (by omega),H,P⟩
 case round=>
  clear H P hl;obtain⟨i,zs,m,hi,rfl,rfl,a9,b0,hp,T,hz,S,u,E⟩:=hrel;have A:=O S;clear S;obtain⟨-,-,-,-,-,c5,-,-,-⟩:=u.cells;have hl:=u.lt;have t:=T.1;rw[aU]at t;have q:=O T;have K:=O hz;have H:=O u;have D:=O E;have o:=O t;have Hp:=O hp;clear T hz u E t hp;by_cases a2:i<n
  .by_cases a8:i<5
   .obtain⟨b1,off,r,hlt,x0,a4,b2⟩:=(Hf.kept (gE D) (fun b h=>h)).2.2 i a2
    try simp only at r
    subst r;generalize x.waves.getD i 0=z at*;obtain⟨y,e5,a6,a7⟩:=sJ a4 5 (by omega);have a5:b1<wr.heap.size:=ab hlt D.size
    have B:w.heap.size+1<=wr.heap.size:=by omega
    have q1:IntKind.i64.wrap z=z:=TM _ (by omega);have q2:IntKind.i64.wrap (200*z)=200*z:=TM _ (by omega);have q3:IntKind.i64.wrap (m+200*z)=m+200*z:=TM _ (by omega);have q4:IntKind.i64.wrap (m+200*z+1000)=m+200*z+1000:=TM _ (by omega);have q5:IntKind.i64.wrap y=y:=TM _ (by omega);have q6:IntKind.i64.wrap (1+y)=1+y:=TM _ (by omega);have F:=O (EX (a:=m+200*z+1000) (b:=1+y) o K (by have:=Hp.out;omega) (by omega) (by omega))
    have a3:=O (show jR (zs++[m+200*z+1000,1+y]) (i+1)<=m+200*z+1000 by
     unfold jR;rw[aj (by omega),cY];have e0:=mb (ys:=[m+200*z+1000,1+y]) (j:=0) o;rw[bE]at e0
     rw[e0];exact Int.le_refl _)
    go_wp2_with(refine je underlying34 Tryz.infoWave2 rfl (by omega) (by omega) rfl (.tmp 27) (.tmp 38) rfl (w+1) _ i zs rfl (q.alloc _) (fun _=>True) _ 1 1 [m+200*z+1000,1+y] rfl (uC rfl rfl rfl) (fun e=>by cases e) (by omega) (by simp;omega) ?_;intro v' w4 g d;have p:=O g;have l:=O d;clear g d)
    have d:=l.out;have r:=(jI (base:=w.heap.size+1) q d (b:=w.heap.size) (by omega) B).trans H;have E3:=O (jF D q d (by omega) B);have E1:=O r;clear r d l q1 q2 q3 q4 q5 q6 e5
    go_roundw
    case rel=>exact⟨i+1,_,m+200*z+1000,by omega,by go_num,rfl,by omega,by omega,a3,p,F,zR o A (by omega) (by omega),E1,E3⟩
    case measure=>simp[intOf];omega
   .have C:((i:Int)==0)=false:=by simp;omega
    obtain⟨X,oc,rfl⟩:=kx q;go_wp2;go_ret;obtain⟨a',c',r,h1,h2⟩:=lc q;cases r;exact⟨X,i,oc,zs,rfl,h2.kept (gN.refl _ _) (fun b h=>⟨by omega,h.2⟩),h1,by omega,by omega,K,A,D⟩
  .obtain⟨X,oc,rfl⟩:=kx q
   by_cases R:i=0
   .have C:((i:Int)==0)=true:=by simp;omega
    have B:w.heap.size+1<=wr.heap.size:=by omega
    have F:=O (EX (a:=550000) (b:=1) o K (by simp[jR,R]) (by omega) (by omega))
    have a1:i+1<=5:=by omega
    clear R
    go_wp2_with(refine je underlying34 Tryz.infoWave2 rfl (by omega) (by omega) rfl (.tmp 43) (.tmp 45) rfl (w+1) _ i zs rfl (q.alloc _) (fun _=>True) _ 1 1 [550000,1] rfl (uC rfl rfl rfl) (fun e=>by cases e) (by omega) (by simp;omega) ?_;intro v' w4 g d;have p:=O g;have l:=O d;clear g d)
    have d:=l.out;have e3:=jF D q d (by omega) B;go_ret;obtain⟨a',c',rfl,h1,h2⟩:=lc p;exact⟨a',i+1,c',_,rfl,h2.kept (gN.refl _ _) (fun b h=>⟨by omega,h.2⟩),h1,by omega,a1,F,zR o A (by omega) (by omega),e3⟩
   .have C:((i:Int)==0)=false:=by simp;omega
    go_wp2;go_ret;obtain⟨a',c',r,h1,h2⟩:=lc q;cases r;exact⟨X,i,oc,zs,rfl,h2.kept (gN.refl _ _) (fun b h=>⟨by omega,h.2⟩),h1,by omega,by omega,K,A,D⟩
def JC(zs:List Int)(p q:Int)(j:Nat):Bool:=decide (zs.getD (j*2) 0=p/\zs.getD (j*2+1) 0=q)
def Nq{zs:List Int}{m:Nat}{a p q:Int}(l:zs.length=m*2)(h:(List.range m).all (iV a zs)=true)(t: -a<=p/\p<=a)(u: -a<=q/\q<=a)(o:(List.range m).any (JC zs p q)=false):(List.range (m+1)).all (iV a (zs++[p,q]))=true:=by
 rw[an];intro j c;have c:=aJ.1 c
 have k:∀i j,i<m->j<m->mV (zs++[p,q]) i j=mV zs i j:=by
  intro i j hi c;unfold mV;rw[kB (by omega),kB (by omega),kB (by omega),kB (by omega)]
 by_cases e:j<m
 .have:=an.1 h j (aJ.2 e)
  unfold iV tc at*;rw[kB (by omega),kB (by omega)]
  rw[show(List.range j).any (mV (zs++[p,q]) j)=(List.range j).any (mV zs j)from by
   rw[bJ,cw,cw];constructor
   .rintro⟨i,hi,b⟩;have:=aJ.1 hi;exact⟨i,hi,by rw[<- k j i e (by omega)];exact b⟩
   .rintro⟨i,hi,b⟩;have:=aJ.1 hi;exact⟨i,hi,by rw[k j i e (by omega)];exact b⟩]
  exact this
 .obtain rfl:j=m:=by omega
  have e0:=mb (ys:=[p,q]) (j:=0) l;have d:=mb (ys:=[p,q]) (j:=1) l;rw[bE]at e0;unfold iV tc;rw[e0,d]
  have f:bt ([p,q].getD 0 0) (-a) a=true:=by unfold bt;simp;omega
  have g:bt ([p,q].getD 1 0) (-a) a=true:=by unfold bt;simp;omega
  rw[f,g]
  have:(List.range j).any (mV (zs++[p,q]) j)=false:=by
   rw[dw];intro n;obtain⟨i,hi,b⟩:=cw.1 n;have s:=aJ.1 hi;have r:=du.1 o i hi;apply r;unfold mV at b;rw[e0,d,kB (by omega),kB (by omega)]at b;simp only[aD,fd,eA]at b;unfold JC;simp only[aD];exact⟨b.1.symm,b.2.symm⟩
  rw[this];rfl
def Rr(far:Int)(w:World)(e:Ending)(w':World):Prop:=
 ∃a n c zs,e=.returned (.slice a n c)/\IRp (fun b=>w.heap.size<=b/\b<w'.heap.size) w' 2 a n c zs/\(a=none->c=0)/\1<=n/\n<=5/\(List.range n).all (iV (jj far) zs)=true/\Below w w w'
def E9{f:Nat->Bool}{j:Nat}{b:Bool}(h:(List.range j).any f=b)(a:b=true\/f j=false):(List.range (j+1)).any f=b:=by
 rw[bV,eo,h]
 obtain rfl|a:=a
 .rfl
 .simp[a]
def Fa(x:rz)(s f v k:iJ)(w:World)(hf:BR (fun b=>b<w.heap.size) w f.a f.n f.c x.fields)(R:Ci x.far):
 Calls prog 48 #[EW x s f v k] w (Rr (uP x) w):=by
 obtain⟨fa,n,fc⟩:=f;have Hf:=O hf;have C:=O R;clear hf R;have b5:=O (oU.new w x s ⟨fa,n,fc⟩ v k);have a9:=O ((TH w w).alloc (aa _) (.cells (lI x s ⟨fa,n,fc⟩ v k).toArray 28));go_enter func48,ntmps48;go_upto_region 1 with fail;refine gI (fun F=>oU F w x s ⟨fa,n,fc⟩ v k/\Below w w F/\F.heap.size=w.heap.size+1) ⟨b5,a9,by simp⟩ ?_;clear b5 a9;rintro w1 ⟨M,X,hz⟩;have c2:=World.ownsRow_lit (base:=w.heap.size+1) (size:=2) (e:=91) w1 #[oZ,oZ] 1 (by omega) (by unfold maxLen;omega) rfl;have hl:=M.lt;have Hg:=O (M.go ((TH _ _).alloc (aa _) (.cells #[oZ,oZ] 91)));have b0:=O (X.alloc X.size (.cells #[oZ,oZ] 91));have b8:=O c2;clear M X hz c2;go_wp2
 go_loopw [3,4] (fun tv iv wr=>∃(i m:Nat)(zs:List Int),i<=4/\1<=m/\m<=i+1/\iv=.int .i64 (i:Int)/\wr.ownsRow (w+1) 91 2 tv m (zs.map (Value.int .i64))/\(List.range m).all (iV (jj (uP x)) zs)=true/\oU wr w x s ⟨fa,n,fc⟩ v k/\Below w w wr) (fun _ iv _=>5-(intOf iv).toNat)
 case atStart=>
  refine⟨0,1,[0,0],by omega,by omega,by omega,rfl,b8,?_,Hg,b0⟩;have hm:=yJ C;unfold jj;split<;>decide
 case round=>
  clear Hg b0 hl b8;obtain⟨i,m,zs,hi,d6,d7,rfl,ho,hz,M,X⟩:=hrel;obtain⟨-,-,-,-,c4,-,-,-,-⟩:=M.cells;have hl:=M.lt;have E:=ho.1;rw[aU]at E;obtain⟨oa,oc,rfl⟩:=kx ho;have Ho:=O ho;have Hz:=O hz;have Hg:=O M;have Hb:=O X;have a6:=O E;clear ho hz M X E;by_cases S:i<n/\i<4
  .obtain⟨S,d5⟩:=S
   obtain⟨b1,off,D,hlt,x0,d0,d1⟩:=(Hf.kept (gE Hb) (fun b h=>h)).2.2 i S
   try simp only at D
   subst D;generalize x.fields.getD i 0=z at*;have d2:b1<wr.heap.size:=ab hlt Hb.size
   have c3:0<=z/16:=by omega
   have c5:z/16<=15:=by omega
   have a4:0<=z%16:=by omega
   have a5:z%16<=15:=by omega
   have q1:IntKind.i64.wrap z=z:=TM _ (by omega);obtain⟨o,rfl⟩:∃o:World,o=wr:=⟨_,rfl⟩;have Q:=O (TL o (.cells #[.int .i64 (10000*(z/16)),.int .i64 (10000*(z%16))] 91));have b4:=O ((TH o o).alloc (aa _) (.cells #[.int .i64 (10000*(z/16)),.int .i64 (10000*(z%16))] 91));go_upto_region 7 with fail;refine gI (fun F=>F.heap[o.heap.size]? =some (.cells #[.int .i64 (10000*(z/16)),.int .i64 (10000*(z%16))] 91 (0,0))/\Below o o F) ⟨Q,b4⟩ ?_;clear Q b4 x0 c4;rintro w2 ⟨h2,K⟩;have A:=TK h2;have N:=O h2;have u:=O K;clear h2 K
   go_upto_if 37 with(first
    |(refine sK (Hg.go u).range rfl (.tmp 1) rfl rfl ?_)
    |(go_at_call 47;refine(JB x s _ v k _ C).mono ?_;rintro e w3 ⟨rfl,t⟩;have r:=O t;clear t))
   have c6:=yJ C;have c8:=(VV ((r.block _ A).trans N) 0).trans rfl;have c9:=(VV ((r.block _ A).trans N) 1).trans rfl;have L:=O ((r.block _ A).trans N)
   have a7:w3.frozen? (J (o.heap.size))=false:=by rw[World.frozen?,L];rfl
   have a8:w3.frozen? ⟨o.heap.size,1,none⟩=false:=by rw[World.frozen?,L];rfl
   have a0:=O (I u r);clear N u r
   go_cut [] (fun F=>∃p q:Int,(-jj (uP x)<=p/\p<=jj (uP x))/\(-jj (uP x)<=q/\q<=jj (uP x))/\F.heap[o.heap.size]? =some (.cells #[p,q] 91 (0,0))/\Below o o F)
   case first=>
    by_cases d3:0<uP x
    .have l:jj (uP x)=1000000000:=by unfold jj;rw[aj (by omega)]
     have g:=O l;clear l;go_wp2;go_meet;refine⟨500000*(z/16),-500000*(z%16),?_,?_,?_,?_⟩
     .rw[g];omega
     .rw[g];omega
     .have:=gG (gG L 0 (.int .i64 (500000*(z/16)))) 1 (.int .i64 (-500000*(z%16)))
      simpa using this
     .exact(a0.setCell (p:=J (o.heap.size)) (aa _) _).setCell (p:=⟨o.heap.size,1,none⟩) (aa _) _
    .have l:jj (uP x)=1000000:=by unfold jj;rw[aq (by omega)]
     have g:=O l;clear l;go_wp2;go_meet;exact⟨10000*(z/16),10000*(z%16),by rw[g];omega,by rw[g];omega,L,a0⟩
   case rest=>
    obtain⟨p,q,hp,hq,h2,K⟩:=hcut;have Hp:=O hp;have Hq:=O hq;have N:=O h2;have u:=O K;clear hp hq h2 K c8 c9 L a7 a8 a0 c6 c3 c5 a4 a5 q1 d0 d1;have A:=TK N;go_wp2
    go_loopw [7,8] (fun kv jv wr=>∃(j:Nat)(b:Bool),j<=m/\jv=.int .i64 (j:Int)/\kv=.bool b/\(List.range j).any (JC zs p q)=b/\Below wc wc wr) (fun _ jv _=>m-(intOf jv).toNat)
    case atStart=>exact⟨0,false,by omega,rfl,rfl,rfl,TH _ _⟩
    case round=>
     obtain⟨j,b,hj,rfl,rfl,c1,t⟩:=hrel;have a2:=I u t;have d4:o.heap.size<wr.heap.size:=ab A t.size;have h2:=(t.block _ A).trans N;have y0:=(VV h2 0).trans rfl;have y1:=(VV h2 1).trans rfl;have H:=O (kD Ho a2);have b6:=O (Hg.go a2);have b2:=O (I Hb a2);have a1:=O c1;have r:=O t;clear c1 t h2;by_cases c7:j<m
     .obtain⟨a',c',D,-,c0⟩:=lc H
      cases D;obtain⟨b3,o3,rfl,l3,x0,x1⟩:=(c0.ir (fun _ h=>h.2)).at2 c7
      have T:∀P r1,zs.getD (j*2) 0=P->zs.getD (j*2+1) 0=r1->JC zs p q j=decide (P=p/\r1=q):=by rintro _ _ rfl rfl;rfl
      generalize a4:zs.getD (j*2) 0=P at*;generalize a5:zs.getD (j*2+1) 0=r1 at*;have T:=T P r1 rfl rfl;have b7:=O T;clear T a4 a5 c0;cases b
      .by_cases hd:P=p/\r1=q
       .obtain⟨rfl,rfl⟩:=hd
        go_wp2_with fail
        go_quiet (fail)
        go_wp2
        go_roundw
        case rel=>exact⟨j+1,true,by omega,by go_num,by simp,by rw[bV,eo];simp[b7.out],gV r _⟩
        case measure=>simp[intOf];omega
       .have a3:((P==p)=false)\/(P=p/\(r1==q)=false):=by simp only[ak];omega
        have Hd:=O hd;clear hd
        obtain a3|⟨rfl,a3⟩:=a3
        all_goals
         go_wp2_with fail
         go_quiet (fail)
         go_wp2
         go_roundw
         case rel=>exact⟨j+1,false,by omega,by go_num,by simp,E9 a1 (VS (b7.trans (by simpa using Hd.out))),gV r _⟩
         case measure=>simp[intOf];omega
      .go_wp2_with fail
       go_quiet (fail)
       go_wp2
       go_roundw
       case rel=>exact⟨j+1,true,by omega,by go_num,by simp,E9 a1 (VR rfl),gV r _⟩
       case measure=>simp[intOf];omega
     .obtain rfl:m=j:=by omega
      cases b
      .have b9:w.heap.size+1<=wr.heap.size:=by have:=Hb.size;have:=u.size;omega
       go_wp2_with(refine je underlying33 Tryz.infoField2 rfl (by omega) (by omega) rfl (.tmp 62) (.tmp 64) rfl (w+1) _ m zs rfl (H.alloc _) (fun _=>True) _ 1 1 [p,q] rfl (uC rfl rfl rfl) (fun e=>by cases e) (by omega) (by simp;omega) ?_;intro v' w4 B d;have W:=O B;have y:=O d;clear B d)
       have d:=y.out;have D:=(jI (base:=w.heap.size+1) H d (b:=w.heap.size) (by omega) b9).trans b6;have E3:=O (jF b2 H d (by omega) b9);have E1:=O D;clear D d y y0 y1
       go_roundw
       case rel=>exact⟨i+1,m+1,_,by omega,by omega,by omega,by go_num,W,Nq a6 Hz Hp Hq a1,E1,E3⟩
       case measure=>simp[intOf];omega
      .go_wp2
       go_roundw
       case rel=>exact⟨i+1,m,zs,by omega,by omega,by omega,by go_num,H,Hz,b6,b2⟩
       case measure=>simp[intOf];omega
  .have hx:¬i<n\/(i<n/\ ¬i<4):=by omega
   clear S
   obtain hx|⟨hx,hx4⟩:=hx
   all_goals
    go_wp2;go_ret;obtain⟨a',c',D,h1,h2⟩:=lc Ho;cases D;exact⟨oa,m,oc,zs,rfl,h2.kept (gN.refl _ _) (fun b h=>⟨by omega,h.2⟩),h1,by omega,by omega,Hz,Hb⟩
