import Derived.Test.YtlnbjinneegciaaGreatDoorOAO
import Derived.Test.YtlnbjinneegciaaGreatDoorOAM
import Derived.Test.YtlnbjinneegciaaGreatDoorOAG
import Derived.Test.YtlnbjinneegciaaGreatDoorOAL
import Derived.RangeFuncNested
import Derived.RangeFuncBound
import Derived.OwnWalkIn
import Derived.TacticsInMore
import Derived.LoopNIn
import Derived.LoopIn
import Derived.RecoverIn
namespace Go.Proofs.YtlnbjinneegciaaGreatDoor
set_option linter.all false
set_option maxRecDepth 100000
set_option maxHeartbeats 12800000
open Go.Proofs.Tryz Go.RowKit
def Km(x:gR)(f v s k:iJ)(g:Nat)(T:TypeId)(w:World)(h:hU w g T x f v s k)(i:iP (fun b=>b<w.heap.size) w x f v s k)(c:jY w w):
 Calls prog 54 #[U g] w (iZ w (.bool (iI x))):=by
 have m:=O h;have n:=O i;have l:=O c;clear h i c;obtain⟨j:HQ _,E2:HQ _⟩:=iN w (.cells #[U g] 174) (.cells (S5 g w).toArray 32);have a:=O (iH (w:=w) (.cells #[U g] 174) (.cells (S5 g w).toArray 32));go_enter func54,ntmps54;go_wp2_with fail;refine(Po x f v s k g w (w+1) 6 T 32 _ (m.go a) (n.go a) ((VV j 0).trans rfl) (by simp<;>omega) (l.go a) E2 (by omega)).mono ?_;rintro e p ⟨o,d⟩;subst o;go_wp2;go_ret;exact⟨rfl,I a d⟩
def jG(x:gR)(f v s k:iJ):Value:=.agg #[x.nm,x.i9,x.p9,x.stop,x.i4,Z f.a f.n f.c,Z v.a v.n v.c,Z s.a s.n s.c,Z k.a k.n k.c]
def zw(x:gR)(f v s k:iJ)(w:World)(h:iP (fun b=>b<w.heap.size) w x f v s k)(c:jY w w):
 Calls prog 26 #[jG x f v s k] w (iZ w (err (iI x) 120)):=by
 have m:=O h;have j:=O c;clear h c;obtain⟨n,i:HQ _⟩:=iN w (.cells (iw x f v s k).toArray 38) (.cells (iw x f v s k).toArray 141);have a:=O (iH (w:=w) (.cells (iw x f v s k).toArray 38) (.cells (iw x f v s k).toArray 141));clear n;unfold jG;go_enter func26,ntmps26;cases hv:iI x
 all_goals
  have l:=O hv;clear hv;go_wp2_with fail;refine(Km x f v s k (w+1) 141 _ i (m.go a) (j.go a)).mono ?_;rintro e o ⟨g,d⟩;rw[l]at g;subst g;go_wp2;go_ret;exact⟨rfl,I a d⟩
def jD.rr2{α:Type}{R:pB α}{k:Nat}(ok:kR k R){T:TypeId}{base:Nat}{w:World}{a:Option Addr}{n c:Nat}{l:List α}(h:jD R k T base w (.slice a n c) l):RR R k (fun b=>base<=b/\b<w.heap.size) w a n c l:=by
 have o:=h.rr ok;refine⟨o.1,o.2.1,fun u=>?_⟩;obtain⟨b,off,e,s,m⟩:=o.2.2 u;obtain⟨css,h1,h2,h3,r⟩:=id h
 obtain ⟨f,h0⟩|⟨g,cap,z,f,y,A,B,C,D,E⟩:=h3.2
 .cases f;cases e
 .cases f;cases e
  refine⟨_,0,rfl,⟨y,s⟩,fun i x q=>?_⟩;have hi:i<l.length:=(TG.1 q).1;have d:css[i]? =some css[i]:=ae (by omega);refine⟨css[i],ok.kept (r i x _ q d) (gN.refl _ _) (fun b h=>⟨h.1,h.2.1⟩),fun j v p=>?_⟩
  have t:j<k:=by
   have:=(TG.1 p).1;rw[h2 css[i] (cW _)]at this;exact this
  have m:=h3.cells rfl (i*k+j) v (by rw[mC css i _ j h2 d t];exact p);rw[Addr.add_mid,<- cN]at m;exact m
def Tryz.infoLens:(prog.info? 38).map (·.size)=some 9:=by kernel_rfl
def ja{ops:Array Oper}{b:List Oper}{e:Oper}{d:Act}{w:World}{Q:Exit->Act->World->Prop}{g:Nat}{cs:Array Value}(x:gR)(f v s k:iJ)(h:w.heap[g]? =some (.cells cs 38 (0,0)))(i:cs.size=9)(j:e.guard=none)(y z:Operand)(m:e.op=.store 38 y z)
 (o:d.eval y=.pointer (J g))(p:d.eval z=.agg #[x.nm,x.i9,x.p9,x.stop,x.i4,Z f.a f.n f.c,Z v.a v.n v.c,Z s.a s.n s.c,Z k.a k.n k.c])
 (l:∀w',hU w' g 38 x f v s k->w'=w.setCells g 0 (iw x f v s k)->wpList prog ops Q b (d.put e.dst undef) w'):wpList prog ops Q (e::b) d w:=
 wpList_store_mid j 38 y z m g 0 _ o p (tF h i) Tryz.infoLens (by simp[Value.oneCell']) (l _ (tE h i) rfl)
def hU.range{w:World}{g:Nat}{T:TypeId}{x:gR}{f v s k:iJ}(h:hU w g T x f v s k):w.rangeAt g 0 (iw x f v s k):=xK h
def it{ops:Array Oper}{b:List Oper}{d:Oper}{e:Act}{w:World}{Q:Exit->Act->World->Prop}{g:Nat}{T:TypeId}{x:gR}{f v s k:iJ}(h:hU w g T x f v s k)(i:d.guard=none)(y:Operand)(l:d.op=.load 38 y)
 (m:e.eval y=.pointer (J g))(j:wpList prog ops Q b (e.put d.dst (.agg #[x.nm,x.i9,x.p9,x.stop,x.i4,Z f.a f.n f.c,Z v.a v.n v.c,Z s.a s.n s.c,Z k.a k.n k.c])) w):wpList prog ops Q (d::b) e w:=
 wpList_load_mid i 38 y l g 0 m (iw x f v s k) _ h.range underlying38 rfl Tryz.infoLens j
def vW{fn:Func}{p u:Tmp}{tmps:Array Value}{w:World}{g:Nat}{x:gR}{f v s k:iJ}{e:Value}(h:fn.results=#[.cell p 38,.tmp u])(a:tmps.getD p undef=.pointer (J g))(c:tmps.getD u undef=e)(b:hU w g 38 x f v s k):
 (results fn tmps).run prog w=.ok (.tuple #[jG x f v s k,e]) w:=by
 rw[results_cell_tmp h,a,c];simp only[asAddr,cT,bU];rw[run_loadVar_row w g 38 38 _ (0,0) _ b underlying38 rfl Tryz.infoLens];rfl
def lz:gR:=⟨ik,0,0,0,0,[],[],[],[]⟩
def ij:iJ:=⟨none,0,0⟩
def iF(ws:List (List UInt8)):List UInt8:=nN ws++[10]
def kO:List (List UInt8):=[[99,117,114,118],[99,111,110,105,99],[99,117,114,118,120],[99,111,110,105,99,120],[97,115,112,104,52],[97,115,112,104,54],[97,115,112,104,56],[97,115,112,104,49,48],[116,104,105,99,107],[115,101,109,105],[100,120],[100,121],[97,120],[97,121],[97,122],[112,104,97,115,101,50],[112,104,97,115,101,52]]
def kP:List (List UInt8):=[[115,116,97,110,100,97,114,100],[98,105,99,111,110,105,99],[98,114,101,97,107],[105,100,101,97,108]]
def kV:List (List UInt8):=[[108,101,110,115],[111,98,106,101,99,116],[112,117,112,105,108],[115,116,111,112],[112,114,105,109,97,114,121],[102,105,101,108,100],[119,97,118,101],[115,117,114,102,97,99,101],[99,111,110,102,105,103],[101,110,100]]
def xZ:List UInt8:=[108,101,110,115]
def sO:List UInt8:=[111,98,106,101,99,116]
def vA:List UInt8:=[112,117,112,105,108]
def Aa:List UInt8:=[115,116,111,112]
def qJ:List UInt8:=[112,114,105,109,97,114,121]
def vB:List UInt8:=[102,105,101,108,100]
def Ab:List UInt8:=[119,97,118,101]
def nq:List UInt8:=[115,117,114,102,97,99,101]
def mc:List UInt8:=[99,111,110,102,105,103]
def Fp:List UInt8:=[101,110,100]
def lG:List UInt8:=[102,105,108,109]
def lB:List UInt8:=[104,111,108,101]
def kj:List UInt8:=[111,114,100,101,114]
def lP:List UInt8:=[103,108,97,115,115]
def lj:List UInt8:=[99,104,97,110,103,101]
def lQ:List UInt8:=[105,110,102,105,110,105,116,121]
def oo(p:Nat):Nat:=if p=1\/p=3 then 9 else if 16<=p then 3 else 6
def km(p:Nat):List UInt8:=kO.getD (p-1) []
def VX(b:ByteArray):List UInt8:=b.data.toList
def Ld(s:gW)(p:Nat):List UInt8:=if s.get (p:Int)=0 then[]else iF [km p,iz (s.get (p:Int)) (oo p)]
def ub(s:gW)(a n:Nat):List UInt8:=((List.range n).map fun i=>Ld s (a+i)).flatten
def V3(zs:List Int)(i:Nat):List UInt8:=iF [lG,iz (zs.getD (i*3) 0) 7,iz (zs.getD (i*3+1) 0) 0,iz (zs.getD (i*3+2) 0) 0]
def oq(x:gM):List UInt8:=
 iF [nq,kP.getD (x.s.kind-1).toNat []]++ub x.s 1 10++(if x.s.i7=0 then[]else iF [lB,iz x.s.i7 6])++ub x.s 11 5
  ++(if x.s.order=0 then[]else iF [kj,iz x.s.order 0])++ub x.s 16 2++(if VX x.s.e9=[]then[]else iF [lP,VX x.s.e9])
  ++((List.range (x.zs.length/3)).map (V3 x.zs)).flatten
def mK(zs:List Int)(i:Nat):List UInt8:=iF [lj,iz (zs.getD (i*3) 0) 0,km (zs.getD (i*3+1) 0).toNat,iz (zs.getD (i*3+2) 0) (oo (zs.getD (i*3+1) 0).toNat)]
def ot(c:jd):List UInt8:=iF [mc,VX c.nm]++((List.range (c.zs.length/3)).map (mK c.zs)).flatten
def nE(fs:List Int)(i:Nat):List UInt8:=iF [vB,iz (fs.getD (i*2) 0) 6,iz (fs.getD (i*2+1) 0) 6]
def qK(ws:List Int)(i:Nat):List UInt8:=iF [Ab,iz (ws.getD (i*2) 0) 3,iz (ws.getD (i*2+1) 0) 0]
def Fq(x:gR):List UInt8:=iF [xZ,VX x.nm]++iF [sO,if x.i9=0 then lQ else iz x.i9 6]++iF [vA,iz x.p9 6]++iF [Aa,iz x.stop 0]++iF [qJ,iz x.i4 0]
def nO(x:gR):List UInt8:=
 Fq x++((List.range (x.fs.length/2)).map (nE x.fs)).flatten++((List.range (x.ws.length/2)).map (qK x.ws)).flatten++(x.l.map oq).flatten++(x.cf.map ot).flatten++iF [Fp]
def VZ(w:List UInt8)(d:Nat):Option Int:=if Fj w d=0 then some (Fi w d)else none
def kF:List (List UInt8)->List Nat->Option (List Int)
 |[],[]=>some []
 |w::ws,d::ds=>match VZ w d with
  |none=>none
  |some n=>match kF ws ds with
   |none=>none
   |some a=>some (n::a)
 |_,_=>none
def rD(w:List UInt8):Option Nat:=(kO.findIdx? (· ==w)).map (· +1)
structure jL where
 x:gR
 at_:Int
 seen:List (List UInt8)
def lJ(k:Nat):gM:=⟨⟨(k:Int),0,0,0,0,0,0,0,0,0,0,0,0,⟨#[]⟩,0,0,0,0,0,0,0⟩,[]⟩
def jk(x:gR)(k:Nat)(w:List (List UInt8)):Option gR:=
 match k,w with
 |0,[v]=>some {x with nm:=bs v}
 |1,[v]=>if v=lQ then some x else(VZ v 6).map fun n=>{x with i9:=n}
 |2,[v]=>(VZ v 6).map fun n=>{x with p9:=n}
 |3,[v]=>(VZ v 0).map fun n=>{x with stop:=n}
 |4,[v]=>(VZ v 0).map fun n=>{x with i4:=n}
 |5,w=>(kF w [6,6]).map fun a=>{x with fs:=x.fs++a}
 |6,w=>(kF w [3,0]).map fun a=>{x with ws:=x.ws++a}
 |7,[v]=>(kP.findIdx? (· ==v)).map fun i=>{x with l:=x.l++[lJ (i+1)]}
 |8,[v]=>some {x with cf:=x.cf++[⟨bs v,[]⟩]}
 |9,[]=>some x
 |_,_=>none
def Dv(v:List UInt8):Option Nat:=match rD v with
 |some p=>some (oo p)
 |none=>if v=lB then some 6 else if v=kj then some 0 else none
def Ac(s:gW)(v:List UInt8)(n:Int):gW:=match rD v with
 |some p=>s.put (p:Int) n
 |none=>if v=lB then{s with i7:=n} else{s with order:=n}
def Ad(y:gM)(w:List (List UInt8)):Option gM:=
 match w with
 |[]=>none
 |f::ws=>
  if f=lG then(kF ws [7,0,0]).map fun a=>{y with zs:=y.zs++a}
  else match ws with
   |[v]=>if f=lP then some {y with s:={y.s with e9:=bs v}} else
     match Dv f with
     |none=>none
     |some d=>(VZ v d).map fun n=>{y with s:=Ac y.s f n}
   |_=>none
def sP(c:jd)(w:List (List UInt8)):Option jd:=
 match w with
 |[_,a,p,v]=>match rD p with
  |none=>none
  |some q=>match VZ a 0 with
   |none=>none
   |some i=>(VZ v (oo q)).map fun n=>{c with zs:=c.zs++[i,(q:Int),n]}
 |_=>none
def ou{α:Type}(l:List α)(f:α->Option α):Option (List α):=match l.getLast? with
 |none=>none
 |some y=>(f y).map fun z=>l.dropLast++[z]
def kp(r:jL)(w:List (List UInt8)):Option jL:=
 if r.at_=9 then none else
 match w with
 |[]=>some r
 |f::ws=>
  match kV.findIdx? (· ==f)with
  |some k=>
   if(k:Int)=r.at_+1\/(5<=k/\4<=r.at_/\r.at_<=(k:Int))then(jk r.x k ws).map fun y=>⟨y,(k:Int),[]⟩else none
  |none=>
   if r.at_=7 then
    (if f≠lG/\f∈r.seen then none else(ou r.x.l fun y=>Ad y (f::ws)).map fun l=>⟨{r.x with l:=l},7,if f=lG then r.seen else r.seen++[f]⟩)
   else if r.at_=8/\f=lj then(ou r.x.cf fun c=>sP c (f::ws)).map fun cf=>⟨{r.x with cf:=cf},8,r.seen⟩
   else none
def ti:List (List UInt8)->Bool
 |[]=>true
 |w::_=>w.head?==some 35
def lR:Nat->jL->List (List UInt8)->Except Nat jL
 |_,r,[]=>.ok r
 |i,r,s::ss=>if ti (iA [] s)then lR (i+1) r ss else match kp r (iA [] s)with
  |none=>.error (i+1)
  |some q=>lR (i+1) q ss
def mG:gR:=⟨⟨#[]⟩,0,0,0,0,[],[],[],[]⟩
def Ae:jL:=⟨mG,-1,[]⟩
structure PP where
 x:gR
 line:Int
 e:Int
def nr(t:List UInt8):PP:=
 if 20000<t.length then⟨mG,0,3⟩else
 match lR 0 Ae (io [] t)with
 | .error i=>⟨mG,(i:Int),5⟩
 | .ok r=>if r.at_≠9 then⟨mG,((io [] t).length:Int),5⟩else if iI r.x=true then⟨r.x,0,0⟩else⟨mG,0,120⟩
def MR{l:List gM}{i p:Int}(h:qx l i p=true):∃(k:Nat)(y:gM),i=(k:Int)/\k<l.length/\l[k]? =some y/\tr y=true/\tt y.s p=true:=by
 unfold qx at h;simp only[am]at h;obtain⟨⟨h1,h2⟩,_⟩:=h
 have h1:0<=i/\i<=(l.length:Int)-1:=by simpa[bt]using h1
 obtain⟨k,rfl⟩:∃k:Nat,i=(k:Int):=⟨i.toNat,by omega⟩
 have a:k<l.length:=by omega
 unfold Eq at h2;rw[aI,ae a]at h2;simp only[vl,am]at h2;exact⟨k,l[k],rfl,a,ae a,h2.1,h2.2⟩

def iX:Ending:=.panicked [{v:=.iface 103 (.agg #[]),recovered:=false}]
def kW(w:World):Calls prog 39 #[true] w fun e w'=>e=.returned (.tuple #[])/\w=w':=by
 go_enter func39,ntmps39;go_wp2;go_end0;exact⟨rfl,rfl⟩
def lm(w:World):Calls prog 39 #[false] w fun e w'=>e=iX/\w=w':=by
 go_enter func39,ntmps39;go_wp2_with fail;exact⟨rfl,rfl,rfl⟩
def JL(ws:List (List UInt8))(e:Ending):Prop:=match ws with
 |[v]=>e=.returned (.string (bs v))
 |_=>e=iX
def nF(ws:List (List UInt8))(a:Option Addr)(n c B:Nat)(w:World)(h:ua w a n c ws B):Calls prog 302 #[Z a n c] w fun e w'=>JL ws e/\w=w':=by
 have b:=h.1
 match ws,b,h with
 |[],b,h=>
  obtain rfl:n=0:=b.symm;clear h;go_enter func302,ntmps302;go_wp2_with fail;refine(lm w).mono ?_;rintro e f ⟨rfl,rfl⟩;unfold iX;go_wp2_with fail;exact⟨rfl,rfl,rfl⟩
 |[v],b,h=>
  obtain rfl:n=1:=b.symm;obtain⟨g,off,rfl,k,d⟩:=h.2.2 (by omega);have c0:w.cell? ⟨g,off,none⟩=some (.string (bs v)):=d 0 v rfl;have i:=h.2.1;clear d h b;go_enter func302,ntmps302;go_wp2_with fail;refine(kW w).mono ?_;rintro e f ⟨rfl,rfl⟩;go_wp2;go_ret;exact⟨rfl,rfl⟩
 |v::u::r,b,h=>
  have j:n=r.length+2:=by rw[<- b];simp
  have h1:((n:Int)==1)=false:=by rw[ak];omega
  clear h b j;go_enter func302,ntmps302;go_wp2_with fail;refine(lm w).mono ?_;rintro e f ⟨rfl,rfl⟩;unfold iX;go_wp2_with fail;exact⟨rfl,rfl,rfl⟩
def kX(l:List UInt8)(d:Nat)(e:Ending):Prop:=match VZ l d with
 |some n=>e=.returned (.int .i64 n)
 |none=>e=iX
def mL(l:List UInt8)(d:Nat)(w:World)(n:l.length<=100000)(m:d<=18)(j:GW w):Calls prog 103 #[.string (bs l),.int .i64 (d:Int)] w fun e w'=>kX l d e/\Below w w w':=by
 go_enter func103,ntmps103;go_wp2_with fail;refine(DA l d w n m j).mono ?_;rintro e k ⟨rfl,h⟩;by_cases a:Fj l d=0
 .have g:VZ l d=some (Fi l d):=by unfold VZ;rw[aq a]
  have f:kX l d (.returned (.int .i64 (Fi l d))):=by unfold kX;rw[g]
  rw[a];have i:=O h;have b:=O f;clear h a g f j;go_wp2_with fail;refine(kW k).mono ?_;rintro e o ⟨rfl,rfl⟩;go_wp2;go_ret;exact⟨b,i⟩
 .have g:VZ l d=none:=by unfold VZ;rw[aj a]
  have f:kX l d iX:=by unfold kX;rw[g]
  have h0:(Fj l d==0)=false:=by rw[ak];exact a
  have i:=O h;have b:=O f;clear h a g f j;go_wp2_with fail;refine(lm k).mono ?_;rintro e o ⟨rfl,rfl⟩;have c:=b.out;unfold iX at c⊢;have b:=O c;clear c;go_wp2_with fail;exact⟨rfl,b,i⟩
def An:∀(ws:List (List UInt8))(ds:List Nat)(k:Nat)(zs:List Int)(x:List UInt8)(d:Nat)(n:Int),ws[k]? =some x->ds[k]? =some d->kF (ws.take k) (ds.take k)=some zs->VZ x d=some n->kF (ws.take (k+1)) (ds.take (k+1))=some (zs++[n])
 |[],_,k,_,_,_,_,h,_,_,_=>by simp at h
 |_::_,[],k,_,_,_,_,_,h,_,_=>by simp at h
 |w::ws,e::ds,0,zs,x,d,n,h1,h2,h3,h4=>by
  simp only[eS,bA]at h1 h2;subst h1;subst h2;simp only[dU,kF,bA]at h3;subst h3;simp[kF,h4]
 |w::ws,e::ds,k+1,zs,x,d,n,h1,h2,h3,h4=>by
  simp only[cS]at h1 h2;rw[dI,dI,kF]at h3⊢
  cases hv:VZ w e with
  |none=>rw[hv]at h3;cases h3
  |some m=>
   rw[hv]at h3
   cases hr:kF (ws.take k) (ds.take k)with
   |none=>rw[hr]at h3;cases h3
   |some a=>
    rw[hr]at h3;simp only[bA]at h3;subst h3;simp only[An ws ds k a x d n h1 h2 hr h4];rfl
def Ao:∀(ws:List (List UInt8))(ds:List Nat)(k:Nat)(x:List UInt8)(d:Nat),ws[k]? =some x->ds[k]? =some d->VZ x d=none->kF ws ds=none
 |[],_,k,_,_,h,_,_=>by simp at h
 |_::_,[],k,_,_,_,h,_=>by simp at h
 |w::ws,e::ds,0,x,d,h1,h2,h3=>by
  simp only[eS,bA]at h1 h2;subst h1;subst h2;rw[kF,h3]
 |w::ws,e::ds,k+1,x,d,h1,h2,h3=>by
  simp only[cS]at h1 h2;rw[kF,Ao ws ds k x d h1 h2 h3];cases VZ w e<;>rfl
def qj:∀(ws:List (List UInt8))(ds:List Nat)(zs:List Int),kF ws ds=some zs->zs.length=ws.length/\ws.length=ds.length
 |[],[],zs,h=>by simp only[kF,bA]at h;subst h;exact⟨rfl,rfl⟩
 |[],_::_,_,h=>by cases h
 |_::_,[],_,h=>by cases h
 |w::ws,e::ds,zs,h=>by
  rw[kF]at h
  cases hv:VZ w e with
  |none=>rw[hv]at h;cases h
  |some m=>
   rw[hv]at h
   cases hr:kF ws ds with
   |none=>rw[hr]at h;cases h
   |some a=>
    rw[hr]at h;simp only[bA]at h;subst h;obtain⟨h1,h2⟩:=qj ws ds a hr;exact⟨by simp[h1],by simp[h2]⟩
def NB{ws:List (List UInt8)}{ds:List Nat}(h:ws.length≠ds.length):kF ws ds=none:=by
 cases hr:kF ws ds with
 |none=>rfl
 |some zs=>exact absurd (qj ws ds zs hr).2 h
def mu(w:World)(ws:List (List UInt8))(ds:List Nat)(e:Ending)(w':World):Prop:=match kF ws ds with
 |some zs=>(∃a c,e=.returned (.slice a zs.length c)/\SL w' w' a zs.length c zs/\ ∀b,(Value.slice a zs.length c).ownBlock=some b->w.heap.size<=b)/\Below w w w'
 |none=>e=iX/\Below w w w'
def DB{w w':World}{ws:List (List UInt8)}{ds:List Nat}{zs:List Int}{e:Ending}(h:kF ws ds=some zs)(h1:∃a c,e=.returned (.slice a zs.length c)/\SL w' w' a zs.length c zs/\ ∀b,(Value.slice a zs.length c).ownBlock=some b->w.heap.size<=b)(h2:Below w w w'):mu w ws ds e w':=by
 unfold mu;rw[h];exact⟨h1,h2⟩
def wD{w w':World}{ws:List (List UInt8)}{ds:List Nat}{e:Ending}(h:kF ws ds=none)(h1:e=iX)(h2:Below w w w'):mu w ws ds e w':=by
 unfold mu;rw[h];exact⟨h1,h2⟩
def RA{w:World}{base:Nat}{v:Value}{n:Nat}{zs:List Int}(h:w.ownsRow base 3 1 v n (zs.map (Value.int .i64))):∃a c,v=.slice a zs.length c/\SL w w a zs.length c zs:=by
 have f:=h.1;rw[aU,dn]at f;subst f
 rcases(mz h).2 with⟨rfl,h0⟩|⟨g,cap,rfl,i,d,b⟩
 .have:zs=[]:=aX.1 h0
  subst this;exact⟨none,0,rfl,SL.nil _ _ _ _⟩
 .refine⟨some ⟨g,0,none⟩,cap,rfl,rfl,d,fun _=>⟨g,0,rfl,b.lt,fun j e=>?_⟩⟩
  rw[aV,b.cell (j:=j) (by rw[aU];exact e)];simp[ah,ae e]
def sS(ws:List (List UInt8))(ds:List Nat)(a b:Option Addr)(n m c c':Nat)(w:World)(h:ua w a n c ws w)(hs:SL w w b m c' (ds.map fun(d:Nat)=>(d:Int)))(hn:n<=100000)(hm:m<=100)(R:∀s∈ws,s.length<=100000)(P:∀d∈ds,d<=18)(hg:GW w):
 Calls prog 101 #[Z a n c,Z b m c'] w (mu w ws ds):=by
 have hl:=h.1
 have Q:m=ds.length:=by rw[hs.1];simp
 by_cases b3:n=m
 .subst b3
  have H:=O h;have Hs:=O hs;have Hg:=O hg;have b1:=O R;have a8:=O P;have Hl:=O hl;have a0:=O Q;clear h hs hg R P hl Q;go_enter func101,ntmps101;go_wp2_with fail;refine(kW w).mono ?_;rintro e w1 ⟨rfl,rfl⟩;go_upto_region 4 with fail
  go_loopw [5,16] (fun v iv wr=>∃(k:Nat)(zs:List Int),k<=n/\iv=.int .i64 (k:Int)/\wr.ownsRow w 3 1 v k (zs.map (Value.int .i64))/\kF (ws.take k) (ds.take k)=some zs/\Below w w wr) (fun _ iv _=>n-(intOf iv).toNat)
  case atStart=>exact⟨0,[],aA _,rfl,⟨rfl,VR ⟨rfl,rfl⟩⟩,rfl,TH _ _⟩
  case round=>
   obtain⟨k,zs,hk,rfl,t,u,K⟩:=hrel;obtain⟨va,vc,rfl,a5⟩:=RA t;have A:=O t;have Hv:=O u;have i:=O K;have a9:=O a5;clear t u K a5;by_cases b2:k<n
   .obtain⟨x,hx⟩:∃x,ws[k]? =some x:=⟨ws[k]'(by have:=Hl.out;omega),ae _⟩
    obtain⟨d,T⟩:∃d,ds[k]? =some d:=⟨ds[k]'(by have:=a0.out;omega),ae _⟩;obtain⟨g,off,rfl,hgl,hc⟩:=H.2.2 (by omega);have c0:wr.cell? ⟨g,off+k,none⟩=some (.string (bs x)):=(i.cell (p:=⟨g,off+k,none⟩) hgl).trans (hc k x hx);obtain⟨g2,C,rfl,X,a1⟩:=Hs.at (by omega)
    have c1:wr.cell? ⟨g2,C+k,none⟩=some (.int .i64 (d:Int)):=by
     refine(i.cell (p:=⟨g2,C+k,none⟩) X).trans ((a1 k b2).trans ?_);rw[ah,aR,T];rfl
    clear hc a1;have b5:x.length<=100000:=b1 x (aL hx);have W:d<=18:=a8 d (aL T);have Hx:=O hx;have Hd:=O T;clear hx T;go_wp2_with fail;refine(mL x d wr b5 W (Hg.below i)).mono ?_;rintro e y ⟨L,o⟩
    cases hvx:VZ x d with
    |none=>
     have r:=Ao ws ds k x d Hx Hd hvx;unfold kX at L;rw[hvx]at L;subst L;have F:=O (wD r rfl (i.trans (o.mono i.size)));clear hvx r o c0 c1;have f:=F.out;unfold iX at f⊢;have M:=O f;clear f F;go_wp2_with fail;exact⟨rfl,M⟩
    |some z=>
     have b0:=O (An ws ds k zs x d z Hx Hd Hv hvx);unfold kX at L;rw[hvx]at L;subst L;have l:=O (kD A o);have a6:=O (i.trans (o.mono i.size));have b4:=(i.trans (o.mono i.size)).size;clear hvx o c0 c1;have a3:=TL y (.cells #[z] 3);have N:=(TH y y).alloc (aa _) (.cells #[z] 3)
     have B:SL (y.alloc (.cells #[z] 3)).heap.size (y.alloc (.cells #[z] 3)) (J (y.heap.size)) 1 1 [z]:=by
      refine⟨rfl,aa _,fun _=>⟨y.heap.size,0,rfl,by simp,fun j hj=>?_⟩⟩
      obtain rfl:j=0:=by omega
      exact VV a3 0
     have D:=O (kD l N);have S:=O B;have b7:=O N;clear a3 N B
     go_wp2_with(refine ju rfl (.tmp 21) (.tmp 28) 133 rfl underlying133 w _ k zs rfl D _ _ 1 1 [z] rfl S (by intro e;cases e) (by omega) (by simp;omega) ?_;intro v' w3 q a2)
     have a7:=O (show Below w w w3 from jF a6 l a2 (aa _) b4);have E:=O q;clear q a2
     go_roundw
     case rel=>exact⟨k+1,zs++[z],by omega,by go_num,E,b0,a7⟩
     case measure=>simp[intOf];omega
   .obtain rfl:k=n:=by omega
    have u:=Hv.out;rw[aM (by have:=Hl.out;omega),aM (by have:=a0.out;omega)]at u;have b6:=qj ws ds zs u;have F:=O (show mu w ws ds (.returned (.slice va zs.length vc)) wr from DB u ⟨va,vc,rfl,a9,fun b K=>(A.lt b K).1⟩ i);clear u b6;go_wp2;go_ret;exact F
 .have a4:ws.length≠ds.length:=by omega
  have hr:∀w',Below w w w'->mu w ws ds iX w':=fun w' K=>wD (NB a4) rfl K
  have h0:((n:Int)==(m:Int))=false:=by rw[ak];omega
  have F:=O hr;clear h hs hg R P hl Q a4 hr;go_enter func101,ntmps101;go_wp2_with fail;refine(lm w).mono ?_;rintro e w1 ⟨rfl,rfl⟩;have f:=F w (TH _ _);unfold iX at f⊢;have M:=O f;clear f;go_wp2_with fail;exact⟨rfl,M⟩
def Pp(w:World)(l:List gM)(i p v:Int)(e:Ending)(w':World):Prop:=
 (nT l i p v=false/\e=.returned (.tuple #[oN,false])/\Below w w w')\/
 (nT l i p v=true/\ ∃g c,e=.returned (.tuple #[Z (J g) l.length c,true])/\oJ w w' (.slice (J g) l.length c) (qy l i p v)/\Below w w w')
def Kn(s:gW)(zs:List Int)(p v:Int)(a:Option Addr)(n c:Nat)(w:World)(i:IR w w 3 a n c zs)(g:n<=1000000)(d:a=none->c=0)(f:s.e9.size<=9223372036854775807)(h1:(mw s zs n p v==0)=false):
 Calls prog 141 #[.agg (⟨s,a,n,c⟩:jt),p,v] w (fun e w'=>e=.returned (.tuple #[.agg zS,.int .i64 (mw s zs n p v)])/\Below w w w'):=
 (zr s zs p v a n c w i g d f).mono (by
   rintro e w' (⟨_,h,b⟩|⟨h0,_⟩)
   .exact⟨h,b⟩
   .rw[h0]at h1;simp at h1)
def GK(s:gW)(zs:List Int)(p v:Int)(a:Option Addr)(n c:Nat)(w:World)(i:IR w w 3 a n c zs)(g:n<=1000000)(d:a=none->c=0)(f:s.e9.size<=9223372036854775807)(h1:mw s zs n p v=0):
 Calls prog 141 #[.agg (⟨s,a,n,c⟩:jt),p,v] w (fun e w'=>∃a c,e=.returned (.tuple #[.agg #[.int .i64 (s.put p v).kind,.int .i64 (s.put p v).t8,.int .i64 (s.put p v).r9,.int .i64 (s.put p v).i5,.int .i64 (s.put p v).cm,.int .i64 (s.put p v).a0,.int .i64 (s.put p v).a1,.int .i64 (s.put p v).a2,.int .i64 (s.put p v).a3,.int .i64 (s.put p v).p0,.int .i64 (s.put p v).p1,.int .i64 (s.put p v).order,.int .i64 (s.put p v).tx,.string (s.put p v).e9,.int .i64 (s.put p v).i6,.int .i64 (s.put p v).i7,.int .i64 (s.put p v).dx,.int .i64 (s.put p v).dy,.int .i64 (s.put p v).ax,.int .i64 (s.put p v).ay,.int .i64 (s.put p v).az,Z a n c],oZ])/\jN (fun b=>w.heap.size<=b/\b<w'.heap.size) w' a n c zs/\(a=none->c=0)/\Below w w w'):=
 (zr s zs p v a n c w i g d f).mono (by
   rintro e w' (⟨h,_⟩|⟨_,h⟩)
   .exact absurd h1 h
   .exact h)
def Ko(l:List gM)(a:Option Addr)(n c:Nat)(w:World)(h:RR jE 22 (fun b=>b<w.heap.size) w a n c l)(j:n<=1000000)(h0:0<l.length):
 Calls prog 108 #[Z a n c] w (fun e w'=>∃g c,e=.returned (.slice (J g) l.length c)/\oJ w w' (.slice (J g) l.length c) l/\Below w w w'):=
 (zu l a n c w h j).mono (by
   rintro e w' ⟨v,rfl,d,f⟩
   obtain ⟨rfl,i⟩|⟨g,cap,rfl,_⟩:=d.r.form
   .rw[i]at h0;simp at h0
   .exact⟨g,cap,rfl,d,f⟩)
def Kp{s:gW}{zs:List Int}{n:Nat}{p v:Int}(h0:mw s zs n p v=0)(c:s.e9.size<=9223372036854775807):(s.put p v).e9.size<=9223372036854775807:=by
 obtain⟨_,b⟩:=vm (show nj s zs n p=0 from by
  apply bg;intro a
  unfold mw at h0;rw[aj a]at h0;exact a h0)
 obtain⟨d,e⟩:=oM b
 obtain rfl|rfl|rfl|rfl|rfl|rfl|rfl|rfl|rfl|rfl|rfl|rfl|rfl|rfl|rfl|rfl|rfl:=oL d e<;>exact c
def UW(l:List gM)(a:Option Addr)(n c:Nat)(i p v:Int)(w:World)(h:RR jE 22 (fun b=>b<w.heap.size) w a n c l)(hn:n<=1000000):
 Calls prog 109 #[Z a n c,i,p,v] w (Pp w l i p v):=by
 have z:=h.1;have H:=O h;clear h;go_enter func109,ntmps109
 cases hh:qx l i p with
 |false=>
  have d:nT l i p v=false:=by unfold nT;rw[hh];rfl
  have Hh:=O hh;have t:=O d;clear hh d
  go_wp2_with((with_reducible refine(Ex l _ n c i p _ H.out hn).mono ?_);rintro e w2 ⟨T,f⟩;rw[Hh.out]at T;subst T;have c0:=O f;clear f)
  go_ret2;exact VR ⟨t.out,rfl,c0.out⟩
 |true=>
  have c4:0<=i/\i<=(n:Int)-1:=by
   unfold qx at hh;simp only[am]at hh;have:=hh.1.1;rw[z]at this;simpa[bt]using this
  obtain⟨k,rfl⟩:∃k:Nat,i=(k:Int):=⟨i.toNat,by omega⟩
  have c6:k<n:=by omega
  have W:k<l.length:=by omega
  have Hh:=O hh;clear hh c4;obtain⟨b,off,x,cs,rfl,hlt,hx,⟨a2,g,c2,rfl,hz,a4,b4,b5⟩,M⟩:=H.out.at c6;have a8:=O (mU hz);have Hz:=O (hz.ir (fun _ h=>h));have S:=O b5;have a7:=O b4;have K:=O M;have Hx:=O hx;have HL:=O z;clear hz b5 b4 M hx
  go_upto_region 3 with((with_reducible refine(Ex l _ n c k p _ H.out hn).mono ?_);rintro e w2 ⟨T,f⟩;rw[Hh.out]at T;subst T;have C:=O f;clear f)
  have a6:mw x.s x.zs g p v=0\/(mw x.s x.zs g p v==0)=false:=by
   by_cases h:mw x.s x.zs g p v=0
   .exact VR h
   .exact VS (by simpa using h)
  obtain h0|h1:=a6
  .have d:nT l k p v=true:=by unfold nT;rw[Hh.out,aI,Hx.out];simp only;rw[<- a8.out];simp[h0]
   have u:qy l k p v=l.set k ⟨x.s.put p v,x.zs⟩:=by unfold qy;rw[aI,Hx.out];simp[d]
   have H0:=O h0;have t:=O d;have P:=O u;clear h0 d u z;have c1:=O (Kp H0.out S.out)
   go_upto_region 4 with(first
    |(refine lw (jb K.out (gE C.out) hlt) rfl (.tmp 21) rfl rfl ?_)
    |((with_reducible refine(GK x.s x.zs p v a2 g c2 _ (Hz.out.go C.out) a4 a7.out S.out H0.out).mono ?_);rintro e w3 ⟨a',c',rfl,hi,b3,B⟩;have Hi:=O hi;have c8:=O b3;have F:=O B;clear hi b3 B)
    |(refine lC (x.s.put p v) a' g c' _ rfl rfl (.tmp 10) (.tmp 26) rfl rfl rfl ?_))
   have L:=gY (o:=.cells #[.int .i64 (x.s.put p v).kind,.int .i64 (x.s.put p v).t8,.int .i64 (x.s.put p v).r9,.int .i64 (x.s.put p v).i5,.int .i64 (x.s.put p v).cm,.int .i64 (x.s.put p v).a0,.int .i64 (x.s.put p v).a1,.int .i64 (x.s.put p v).a2,.int .i64 (x.s.put p v).a3,.int .i64 (x.s.put p v).p0,.int .i64 (x.s.put p v).p1,.int .i64 (x.s.put p v).order,.int .i64 (x.s.put p v).tx,.string (x.s.put p v).e9,.int .i64 (x.s.put p v).i6,.int .i64 (x.s.put p v).i7,.int .i64 (x.s.put p v).dx,.int .i64 (x.s.put p v).dy,.int .i64 (x.s.put p v).ax,.int .i64 (x.s.put p v).ay,.int .i64 (x.s.put p v).az,Z a' g c'] 64) (TH w3 w3);refine gI (fun E=>Y E w3 (x.s.put p v) a' g c'/\Below w w E/\jN (fun b=>w.heap.size<=b/\b<E.heap.size) E a' g c' x.zs) ⟨Y.new w3 (x.s.put p v) a' g c',I C.out (I F.out L),Hi.out.kept ((gE L).mono (fun b f=>f.2)) (fun b f=>⟨af C.out.size f.1,ab f.2 L.size⟩)⟩ ?_;clear L F Hi;rintro w4 ⟨hs,b1,hi⟩;have c7:=hs.lt;have Hs:=O hs;have R:=O b1;have Hi:=O hi;clear hs b1 hi
   go_upto_region 7 with((with_reducible refine(Ko l _ n c _ (H.out.go iD R.out) hn (cX (aA k) W)).mono ?_);rintro e w5 ⟨Q,c5,rfl,ho,b2⟩;have Ho:=O ho;have A:=O b2;clear ho b2)
   have c9:w4.heap.size<=Q:=by
    obtain ⟨e,_⟩|⟨g',_,e,q,_⟩:=Ho.out.r.form
    .cases e
    .cases e;exact q
   obtain⟨lq,X,D,b0,N⟩:=Ho.out
   have b7:k<lq.length:=by rw[<- mD,X];exact W
   have a5:=R.out.size;have b9:rL (fun b=>w.heap.size<=b/\b<w5.heap.size/\b≠Q) w5 ⟨⟨x.s.put p v,x.zs⟩,w.heap.size,w4.heap.size⟩ (gX (x.s.put p v) a' g c'):=⟨a',g,c',rfl,Hi.out.kept ((gE A.out).mono (fun b f=>f.2)) (fun b f=>⟨⟨f.1,ab f.2 A.out.size,by have:=f.2;omega⟩,f⟩),a4,c1.out⟩
   have b8:oJ w (w5.setCells Q (k*22) (gX (x.s.put p v) a' g c')) (.slice (J Q) l.length c5) (l.set k ⟨x.s.put p v,x.zs⟩):=
    ⟨_,by rw[El,X],(D.down jX a5).set jX b7 b9,b0.set (fun j y hy _=>VS (N y (aL hy)).1),(fun q D=>by
      rw[im]
      obtain D|rfl:=bH D
      .exact⟨af a5 (N q D).1,(N q D).2⟩
      .exact⟨aa _,a5,A.out.size⟩)⟩
   have a9:=O b8;clear b8 b9 X D b0 N b7
   go_wp2_with(first
    |(refine gO (Hs.out.go A.out c7) rfl (.tmp 10) rfl rfl ?_)
    |(refine pX (x.s.put p v) a' g c' (Ho.out.r.there W) rfl _ _ rfl rfl rfl ?_;refine jJ (fun E=>oJ w E (.slice (J Q) l.length c5) (l.set k ⟨x.s.put p v,x.zs⟩)/\Below w w E) ⟨a9.out,ig (by omega) _ _ (I R.out A.out)⟩ ?_;clear Hs Ho a9;rintro w6 ⟨h6,b6⟩;have H6:=O h6;have c3:=O b6;clear h6 b6))
   go_ret2;exact VS ⟨t.out,Q,c5,rfl,by rw[P.out];exact H6.out,c3.out⟩
  .have d:nT l k p v=false:=by unfold nT;rw[aI,Hx.out];simp only;rw[<- a8.out];simp at h1;simp[h1]
   have t:=O d;clear d
   go_wp2_with(first
    |(refine lw (jb K.out (gE C.out) hlt) rfl (.tmp 21) rfl rfl ?_)
    |((with_reducible refine(Kn x.s x.zs p v a2 g c2 _ (Hz.out.go C.out) a4 a7.out S.out h1).mono ?_);rintro e w3 ⟨rfl,B⟩;have F:=O B;clear B;generalize mw x.s x.zs g p v=m at*)
    |(refine lC ⟨0,0,0,0,0,0,0,0,0,0,0,0,0,ik,0,0,0,0,0,0,0⟩ none 0 0 _ rfl rfl (.tmp 10) (.tmp 26) rfl rfl rfl ?_))
   go_ret2;exact VR ⟨t.out,rfl,I C.out (gY F.out)⟩
def QB:Nat->FuncId
 |0=>273
 |1=>274
 |2=>275
 |3=>276
 |4=>277
 |5=>278
 |6=>279
 |7=>280
 |8=>281
 |9=>282
 |10=>283
 |11=>284
 |12=>285
 |13=>286
 |14=>287
 |15=>288
 |_=>289
def NC(a b:List UInt8):(bs a==bs b)=(a==b):=by
 show(a.toArray==b.toArray)=(a==b)
 simp
abbrev ND:=List (List UInt8×Value)
def rR(l:ND)(nm:List UInt8):Option Value:=(l.find? fun e=>e.1==nm).map (·.2)
def Li(w:World)(b:Nat)(l:ND):Prop:=
 ∃c a,w.heap[b]? =some (.map c a)/\c.toList.map (fun e=>(e.key,e.val))=l.map (fun x=>(Value.string (bs x.1),x.2))
def Li.block{w w':World}{b:Nat}{l:ND}(h:Li w b l)(d:w'.heap[b]? =w.heap[b]?):Li w' b l:=by
 obtain⟨c,a,h1,h2⟩:=h;exact⟨c,a,d.trans h1,h2⟩
def Cr(s:List UInt8):∀(l:List MapEntry)(ks:ND)(i:Nat),l.map (fun e=>(e.key,e.val))=ks.map (fun x=>(Value.string (bs x.1),x.2))->
 (∃v,rR ks s=some v/\ ∃j,Instr.findNow .string (.string (bs s)) l i=some (some (j,v)))\/(rR ks s=none/\Instr.findNow .string (.string (bs s)) l i=some none)
 |[],[],i,_=>VS ⟨rfl,rfl⟩
 |[],k::ks,i,h=>by cases h
 |e::l,[],i,h=>by cases h
 |e::l,k::ks,i,h=>by
  simp only[aN,ei,dK]at h;obtain⟨⟨h1,h2⟩,h3⟩:=h;unfold Instr.findNow;rw[h1,h2];simp only[Instr.sameNow,NC];cases e:(s==k.1)
  .have a:(k.1==s)=false:=by rw[ak]at e⊢;exact fun x=>e x.symm
   obtain ⟨v,b,c⟩|⟨b,c⟩:=Cr s l ks (i+1) h3
   .exact VR ⟨v,by unfold rR at*;rw[fP,a];exact b,c⟩
   .exact VS ⟨by unfold rR at*;rw[fP,a];exact b,c⟩
  .have a:(k.1==s)=true:=by rw[dz]at e⊢;exact e.symm
   exact VR ⟨k.2,by unfold rR;rw[fP,a];rfl,i,rfl⟩
def mM{P:Program}{t kt e:TypeId}(m:P.underlying t=some (.map kt e))(a:P.underlying kt=some .string){w:World}{z:Value}(o:(zeroValue e).run P w=.ok z w){b:Nat}{l:ND}(h:Li w b l)(s:List UInt8)(ok:Bool):
 (Instr.lookup t (.map (some b)) (.string (bs s)) ok).run P w=.ok (if ok then .tuple #[(rR l s).getD z,.bool (rR l s).isSome]else(rR l s).getD z) w:=by
 obtain⟨n,f,g,k⟩:=h
 have i:∀b,(Instr.checkKey b 10000 kt (.string (bs s))).run P w=.ok () w:=fun b=>by
  rw[show(10000:Nat)=9999+1 from rfl,Instr.checkKey,bR,bQ a];rfl
 obtain ⟨v,c,j,d⟩|⟨c,d⟩:=Cr s n.toList l 0 k
 .cases ok<;>simp[Instr.lookup,Instr.findKey,bR,bQ m,bQ a,MapKept.run_getObj_map g,i,d,c]
 .cases ok<;>simp[Instr.lookup,Instr.findKey,bR,bQ m,bQ a,MapKept.run_getObj_map g,i,d,c,o]
def Ap(N g:Nat)(w:World)(a:List UInt8->Option Value):Prop:=∃b l,w.cell? (J g)=some (.map (some b))/\b<N/\Li w b l/\ ∀s,rR l s=a s
def Ap.below{N g:Nat}{w w':World}{a:List UInt8->Option Value}(h:Ap N g w a)(e:g<N)(c:Below N w w'):Ap N g w' a:=by
 obtain⟨b,l,h1,h2,h3,d⟩:=h;exact⟨b,l,(c.cell (p:=J g) e).trans h1,h2,h3.block (c.block b h2),d⟩
def Ap.mono{N M g:Nat}{w:World}{a:List UInt8->Option Value}(h:Ap N g w a)(d:N<=M):Ap M g w a:=by
 obtain⟨b,l,h1,h2,h3,c⟩:=h;exact⟨b,l,h1,by omega,h3,c⟩
def yE(s:List UInt8):Option Value:=
 if s=lB then some (.agg #[.string (bs lB),.int .i64 6,.func (.func 290) #[] #[]])else if s=kj then some (.agg #[.string (bs kj),oZ,.func (.func 291) #[] #[]])else none
def RB:Nat->FuncId
 |0=>292
 |1=>293
 |2=>294
 |3=>295
 |4=>296
 |5=>297
 |6=>298
 |7=>299
 |8=>300
 |_=>301
def Fv(s:List UInt8):Option Value:=(kV.findIdx? (· ==s)).map fun k=>.func (.func (RB k)) #[] #[]
structure TW (N:Nat) (w:World):Prop where
 glo:14<=N
 par:∀i,i<17->w.rangeAt 0 (i*3) [.string (bs (kO.getD i [])),.int .i64 (oo (i+1):Int),.func (.func (QB i)) #[] #[]]
 ord:∃a n c,w.cell? (J 1)=some (.slice a n c)/\ua w a n c kV N
 oth:Ap N 3 w yE
 rdr:Ap N 4 w Fv
 kin:∃a n c,w.cell? (J 2)=some (.slice a n c)/\ua w a n c kP N
def TW.below{N:Nat}{w w':World}(h:TW N w)(b:Below N w w'):TW N w':=by
 refine⟨h.glo,fun i hi j v e=>?_,?_,h.oth.below (ab (show 3<14 by decide) h.glo) b,h.rdr.below (ab (show 4<14 by decide) h.glo) b,?_⟩
 .exact(b.cell (p:=⟨0,i*3+j,none⟩) (ab (show 0<14 by decide) h.glo)).trans (h.par i hi j v e)
 .obtain⟨a,n,c,h1,h2⟩:=h.ord
  exact⟨a,n,c,(b.cell (p:=J 1) (ab (show 1<14 by decide) h.glo)).trans h1,h2.kept (fun k d=>b.block k d) (aa _)⟩
 .obtain⟨a,n,c,h1,h2⟩:=h.kin
  exact⟨a,n,c,(b.cell (p:=J 2) (ab (show 2<14 by decide) h.glo)).trans h1,h2.kept (fun k d=>b.block k d) (aa _)⟩
def Lj(o:Option Nat):Int:=match o with
 |some i=>(i:Int)
 |none=> -1
def Aq{l:List (List UInt8)}{s:List UInt8}{k:Nat}{x:List UInt8}(b:l[k]? =some x)(a:∀y∈l.take k,(y==s)=false)(h:(x==s)=true):l.findIdx? (· ==s)=some k:=by
 have c:=(TG.1 b).1;rw[fm];refine⟨c,by rw[(TG.1 b).2];exact h,fun j d=>?_⟩;have:=a l[j] (List.mem_take_iff_getElem.2 ⟨j,by omega,rfl⟩);simp[this]
def vC{l:List (List UInt8)}{s:List UInt8}(a:∀y∈l,(y==s)=false):l.findIdx? (· ==s)=none:=by
 rw[List.findIdx?_eq_none_iff];exact a
def JM{l:List (List UInt8)}{s x:List UInt8}{k:Nat}(c:l[k]? =some x)(b:∀y∈l.take k,(y==s)=false)(h:(x==s)=false):∀y∈l.take (k+1),(y==s)=false:=by
 intro y a;have d:=(TG.1 c).1;rw[eK,c]at a
 obtain a|a:=bj.1 a
 .exact b y a
 .simp at a;subst a;exact h
def Ar(l:List (List UInt8))(s:List UInt8)(a:Option Addr)(n c N:Nat)(w:World)(h:ua w a n c l N)(r:N<=w.heap.size)(z:n<=100000):
 Calls prog 64 #[Z a n c,.string (bs s)] w (iZ w (.int .i64 (Lj (l.findIdx? (· ==s))))):=by
 have o:=O (h.1);have H:=O h;clear h;go_enter func64,ntmps64;go_wp2
 go_loopw [8] (fun m wr=>∃k:Nat,k<=n/\m=.int .i64 (k:Int)/\(∀y∈l.take k,(y==s)=false)/\Below w w wr) (fun m _=>n-(intOf m).toNat)
 case atStart=>exact⟨0,aA _,rfl,by simp,TH _ _⟩
 case round=>
  obtain⟨k,v,rfl,b:HQ _,Hb:HQ _⟩:=hrel;by_cases u:k<n
  .obtain⟨x,f⟩:∃x,l[k]? =some x:=⟨l[k]'(by have:=o.out;omega),ae _⟩
   obtain⟨g,off,rfl,hgl,q⟩:=H.2.2 (by omega);have c0:wr.cell? ⟨g,off+k,none⟩=some (.string (bs x)):=(Hb.cell (p:=⟨g,off+k,none⟩) (ab hgl r)).trans (q k x f);clear q;cases hb:(s==x)
   .have d:(x==s)=false:=by rw[ak]at hb⊢;exact fun e=>hb e.symm
    have i:=O (JM f b d);clear f d b;go_wp2
    go_roundw
    case rel=>exact⟨k+1,by omega,by go_num,i,Hb⟩
    case measure=>simp[intOf];omega
   .have d:(x==s)=true:=by rw[dz]at hb⊢;exact hb.symm
    have j:=O (Aq f b d);clear f d b;go_wp2;go_ret;exact⟨by rw[j];rfl,Hb⟩
  .obtain rfl:k=n:=by omega
   have hf:l.findIdx? (· ==s)=none:=vC (fun y t=>b y (by rw[aM (by have:=o.out;omega)];exact t));have j:=O hf;clear hf;go_wp2;go_ret;exact⟨by rw[j];rfl,Hb⟩
def Iv:Nat->Nat
 |0=>1
 |1=>2
 |2=>3
 |3=>4
 |4=>5
 |5=>6
 |6=>7
 |7=>8
 |8=>12
 |9=>14
 |10=>16
 |11=>17
 |12=>18
 |13=>19
 |14=>20
 |15=>9
 |16=>10
 |_=>0
def NE(b k:Nat)(w:World):Calls prog 273 #[.pointer (some ⟨b,k,none⟩)] w fun e w'=>e=.returned (.pointer (some ⟨b,k+1,none⟩))/\w=w':=by
 go_enter func273,ntmps273;go_wp2;go_ret;exact⟨rfl,rfl⟩
def NF(b k:Nat)(w:World):Calls prog 274 #[.pointer (some ⟨b,k,none⟩)] w fun e w'=>e=.returned (.pointer (some ⟨b,k+2,none⟩))/\w=w':=by
 go_enter func274,ntmps274;go_wp2;go_ret;exact⟨rfl,rfl⟩
def NG(b k:Nat)(w:World):Calls prog 275 #[.pointer (some ⟨b,k,none⟩)] w fun e w'=>e=.returned (.pointer (some ⟨b,k+3,none⟩))/\w=w':=by
 go_enter func275,ntmps275;go_wp2;go_ret;exact⟨rfl,rfl⟩
def NH(b k:Nat)(w:World):Calls prog 276 #[.pointer (some ⟨b,k,none⟩)] w fun e w'=>e=.returned (.pointer (some ⟨b,k+4,none⟩))/\w=w':=by
 go_enter func276,ntmps276;go_wp2;go_ret;exact⟨rfl,rfl⟩
def NI(b k:Nat)(w:World):Calls prog 277 #[.pointer (some ⟨b,k,none⟩)] w fun e w'=>e=.returned (.pointer (some ⟨b,k+5,none⟩))/\w=w':=by
 go_enter func277,ntmps277;go_wp2;go_ret;exact⟨rfl,rfl⟩
def NJ(b k:Nat)(w:World):Calls prog 278 #[.pointer (some ⟨b,k,none⟩)] w fun e w'=>e=.returned (.pointer (some ⟨b,k+6,none⟩))/\w=w':=by
 go_enter func278,ntmps278;go_wp2;go_ret;exact⟨rfl,rfl⟩
def NK(b k:Nat)(w:World):Calls prog 279 #[.pointer (some ⟨b,k,none⟩)] w fun e w'=>e=.returned (.pointer (some ⟨b,k+7,none⟩))/\w=w':=by
 go_enter func279,ntmps279;go_wp2;go_ret;exact⟨rfl,rfl⟩
def NL(b k:Nat)(w:World):Calls prog 280 #[.pointer (some ⟨b,k,none⟩)] w fun e w'=>e=.returned (.pointer (some ⟨b,k+8,none⟩))/\w=w':=by
 go_enter func280,ntmps280;go_wp2;go_ret;exact⟨rfl,rfl⟩
def NM(b k:Nat)(w:World):Calls prog 281 #[.pointer (some ⟨b,k,none⟩)] w fun e w'=>e=.returned (.pointer (some ⟨b,k+12,none⟩))/\w=w':=by
 go_enter func281,ntmps281;go_wp2;go_ret;exact⟨rfl,rfl⟩
def Lk(b k:Nat)(w:World):Calls prog 282 #[.pointer (some ⟨b,k,none⟩)] w fun e w'=>e=.returned (.pointer (some ⟨b,k+14,none⟩))/\w=w':=by
 go_enter func282,ntmps282;go_wp2;go_ret;exact⟨rfl,rfl⟩
def Ll(b k:Nat)(w:World):Calls prog 283 #[.pointer (some ⟨b,k,none⟩)] w fun e w'=>e=.returned (.pointer (some ⟨b,k+16,none⟩))/\w=w':=by
 go_enter func283,ntmps283;go_wp2;go_ret;exact⟨rfl,rfl⟩
def Lm(b k:Nat)(w:World):Calls prog 284 #[.pointer (some ⟨b,k,none⟩)] w fun e w'=>e=.returned (.pointer (some ⟨b,k+17,none⟩))/\w=w':=by
 go_enter func284,ntmps284;go_wp2;go_ret;exact⟨rfl,rfl⟩
def Ln(b k:Nat)(w:World):Calls prog 285 #[.pointer (some ⟨b,k,none⟩)] w fun e w'=>e=.returned (.pointer (some ⟨b,k+18,none⟩))/\w=w':=by
 go_enter func285,ntmps285;go_wp2;go_ret;exact⟨rfl,rfl⟩
def Lo(b k:Nat)(w:World):Calls prog 286 #[.pointer (some ⟨b,k,none⟩)] w fun e w'=>e=.returned (.pointer (some ⟨b,k+19,none⟩))/\w=w':=by
 go_enter func286,ntmps286;go_wp2;go_ret;exact⟨rfl,rfl⟩
def Lp(b k:Nat)(w:World):Calls prog 287 #[.pointer (some ⟨b,k,none⟩)] w fun e w'=>e=.returned (.pointer (some ⟨b,k+20,none⟩))/\w=w':=by
 go_enter func287,ntmps287;go_wp2;go_ret;exact⟨rfl,rfl⟩
def Lq(b k:Nat)(w:World):Calls prog 288 #[.pointer (some ⟨b,k,none⟩)] w fun e w'=>e=.returned (.pointer (some ⟨b,k+9,none⟩))/\w=w':=by
 go_enter func288,ntmps288;go_wp2;go_ret;exact⟨rfl,rfl⟩
def Lr(b k:Nat)(w:World):Calls prog 289 #[.pointer (some ⟨b,k,none⟩)] w fun e w'=>e=.returned (.pointer (some ⟨b,k+10,none⟩))/\w=w':=by
 go_enter func289,ntmps289;go_wp2;go_ret;exact⟨rfl,rfl⟩
def NN(b k:Nat)(w:World):Calls prog 290 #[.pointer (some ⟨b,k,none⟩)] w fun e w'=>e=.returned (.pointer (some ⟨b,k+15,none⟩))/\w=w':=by
 go_enter func290,ntmps290;go_wp2;go_ret;exact⟨rfl,rfl⟩
def Ls(b k:Nat)(w:World):Calls prog 291 #[.pointer (some ⟨b,k,none⟩)] w fun e w'=>e=.returned (.pointer (some ⟨b,k+11,none⟩))/\w=w':=by
 go_enter func291,ntmps291;go_wp2;go_ret;exact⟨rfl,rfl⟩
def JN(i:Nat)(hi:i<17)(b k:Nat)(w:World):Calls prog (QB i) #[.pointer (some ⟨b,k,none⟩)] w fun e w'=>e=.returned (.pointer (some ⟨b,k+Iv i,none⟩))/\w=w':=by
 match i,hi with
 |0,_=>exact NE b k w
 |1,_=>exact NF b k w
 |2,_=>exact NG b k w
 |3,_=>exact NH b k w
 |4,_=>exact NI b k w
 |5,_=>exact NJ b k w
 |6,_=>exact NK b k w
 |7,_=>exact NL b k w
 |8,_=>exact NM b k w
 |9,_=>exact Lk b k w
 |10,_=>exact Ll b k w
 |11,_=>exact Lm b k w
 |12,_=>exact Ln b k w
 |13,_=>exact Lo b k w
 |14,_=>exact Lp b k w
 |15,_=>exact Lq b k w
 |16,_=>exact Lr b k w
 |i+17,hi=>omega
def Iw(i:Nat)(hi:i<17):Iv i=mi ((i:Int)+1):=by
 match i,hi with
 |0,_=>rfl
 |1,_=>rfl
 |2,_=>rfl
 |3,_=>rfl
 |4,_=>rfl
 |5,_=>rfl
 |6,_=>rfl
 |7,_=>rfl
 |8,_=>rfl
 |9,_=>rfl
 |10,_=>rfl
 |11,_=>rfl
 |12,_=>rfl
 |13,_=>rfl
 |14,_=>rfl
 |15,_=>rfl
 |16,_=>rfl
 |i+17,hi=>omega
def Tryz.infoPar:(prog.info? 97).map (·.size)=some 3:=by kernel_rfl
def qe{ops:Array Oper}{a:List Oper}{c:Oper}{e:Act}{w:World}{Q:Exit->Act->World->Prop}{b o:Nat}{s:ByteArray}{d:Int}{f:Value}(p:Operand)(j:c.op=.load 97 p)(g:c.guard=none)
 (k:e.eval p=.pointer (some ⟨b,o,none⟩))(h:w.rangeAt b o [s,d,f])(i:wpList prog ops Q a (e.put c.dst (.agg #[s,d,f])) w):wpList prog ops Q (c::a) e w:=
 wpList_load_mid g 97 p j b o k [s,d,f] _ h underlying97 rfl Tryz.infoPar i
def oV{w:World}{b j:Nat}{v:Value}(h:w.cell? ⟨b,j,none⟩=some v):b<w.heap.size:=by
 apply bg;intro a;rw[World.cell?,Array.getElem?_eq_none (by show w.heap.size<=b;omega)]at h;cases h
def tk(s:List UInt8):Int:=Lj (kO.findIdx? (· ==s))
def Lt(x s:List UInt8)(d:Int)(f:Value)(b:Nat)(w:World)(c:w.cell? (J b)=some (.string (bs s))):
 Calls prog 137 #[.agg #[.string (bs x),d,f],U b] w (iZ w (.bool (x==s))):=by
 have g:=oV c;have a:=(TH w w).alloc (aa _) (.cells #[.string (bs x),d,f] 97);have h0:=TL w (.cells #[.string (bs x),d,f] 97);have c0:=VV h0 0;have h:=(a.cell (p:=J b) g).trans c;have e:=O a;clear c a h0;go_enter func137,ntmps137;go_wp2;go_ret;exact⟨rfl,e⟩
def Iy(s:List UInt8)(b N:Nat)(w:World)(n:TW N w)(v:N<=w.heap.size)(i:w.cell? (J b)=some (.string (bs s))):
 Calls prog 136 #[Z (J 0) 17 17,.func (.func 137) #[] #[U b]] w (iZ w (.int .i64 (tk s))):=by
 have o:=oV i;have r:=O n;have l:=O i;clear n i;go_enter func136,ntmps136;go_wp2
 go_loopw [8] (fun j wr=>∃k:Nat,k<=17/\j=.int .i64 (k:Int)/\(∀y∈kO.take k,(y==s)=false)/\Below w w wr) (fun j _=>17-(intOf j).toNat)
 case atStart=>exact⟨0,aA _,rfl,by simp,TH _ _⟩
 case round=>
  obtain⟨k,A,rfl,a:HQ _,Hb:HQ _⟩:=hrel;by_cases g:k<17
  .have q:kO[k]? =some (kO.getD k []):=by rw[ah,ae (show k<kO.length from g)];rfl
   have u:=O ((r.below (Hb.mono v)).par k g);have m:=O q;clear q;generalize kO.getD k []=x at*;have t:=O (show wr.cell? (J b)=some (.string (bs s))from(Hb.cell (p:=J b) o).trans l)
   go_wp2_with(refine qe (.tmp 14) rfl rfl rfl u ?_)
   refine(Lt x s _ _ b wr t).mono ?_;rintro e B ⟨rfl,f⟩;have d:=O (Hb.trans (f.mono Hb.size));clear f;cases hbx:(x==s)
   .have c:=O (JM m a hbx)
    clear a;go_wp2
    go_roundw
    case rel=>exact⟨k+1,by omega,by go_num,c,d⟩
    case measure=>simp[intOf];omega
   .have h:=O (Aq m a hbx)
    clear a;go_wp2;go_ret;exact⟨by unfold tk;rw[h];rfl,d⟩
  .obtain rfl:k=17:=by omega
   have hf:kO.findIdx? (· ==s)=none:=vC (fun y z=>a y (by rw[aM (by decide)];exact z));have h:=O hf;clear hf;go_wp2;go_ret;exact⟨by unfold tk;rw[h];rfl,Hb⟩
def uc(s:List UInt8)(N:Nat)(w:World)(c:TW N w)(i:N<=w.heap.size):Calls prog 102 #[.string (bs s)] w (iZ w (.int .i64 (tk s))):=by
 have a:=(TH w w).alloc (aa _) (.cells #[.string (bs s)] 9);have h0:=TL w (.cells #[.string (bs s)] 9);have h:=O (VV h0 0);have f:=O (c.below (a.mono i));have b:=O a;clear c a h0;go_enter func102,ntmps102;go_wp2_with fail;refine(Iy s w N _ f (by simp;omega) h).mono ?_;rintro e j ⟨rfl,d⟩;have g:=O (b.trans (d.mono b.size));clear d;go_wp2;go_ret;exact⟨rfl,g⟩
def jD.sl{α:Type}{R:pB α}{k:Nat}{T:TypeId}{base:Nat}{w:World}{v:Value}{l:List α}(h:jD R k T base w v l):∃a c,v=.slice a l.length c/\(a=none->c=0):=by
 obtain ⟨rfl,rfl⟩|⟨g,cap,rfl,_⟩:=h.form
 .exact⟨none,0,rfl,fun _=>rfl⟩
 .exact⟨_,cap,rfl,fun e=>by cases e⟩
def zx{l:List gM}{zs:List Int}:∀{n:Nat}{l':List gM},tu l zs n=some l'->l'.length=l.length:=by
 intro n
 induction n with
 |zero=>intro l' h;cases h;rfl
 |succ n a=>
  intro l' h;rw[tu]at h
  cases hc:tu l zs n with
  |none=>rw[hc]at h;cases h
  |some m=>
   rw[hc]at h;simp only[aO]at h;split at h
   .cases h
    rw[xP];exact a hc
   .cases h
def Pq(w:World)(l:List gM)(zs:List Int)(n:Nat)(e:Ending)(w':World):Prop:=
 (tu l zs n=none/\e=.returned (.tuple #[oN,false])/\Below w w w')\/
 (∃l' v,tu l zs n=some l'/\e=.returned (.tuple #[v,.bool (decide (n<=12))])/\oJ w w' v l'/\Below w w w')
def MQ(l:List gM)(a:Option Addr)(n c:Nat)(i p v:Int)(w:World)(h:RR jE 22 (fun b=>b<w.heap.size) w a n c l)(f:n<=1000000)(h0:nT l i p v=false):
 Calls prog 109 #[Z a n c,i,p,v] w (fun e w'=>e=.returned (.tuple #[oN,false])/\Below w w w'):=
 (UW l a n c i p v w h f).mono (by
   rintro e w' (⟨_,h,d⟩|⟨h1,_⟩)
   .exact⟨h,d⟩
   .rw[h0]at h1;cases h1)
def Kq(l:List gM)(a:Option Addr)(n c:Nat)(i p v:Int)(w:World)(h:RR jE 22 (fun b=>b<w.heap.size) w a n c l)(d:n<=1000000)(h0:nT l i p v=true):
 Calls prog 109 #[Z a n c,i,p,v] w (fun e w'=>∃g c,e=.returned (.tuple #[Z (J g) l.length c,true])/\oJ w w' (.slice (J g) l.length c) (qy l i p v)/\Below w w w'):=
 (UW l a n c i p v w h d).mono (by
   rintro e w' (⟨h1,_⟩|⟨_,h⟩)
   .rw[h0]at h1;cases h1
   .exact h)
def wW(l:List gM)(zs:List Int)(a b:Option Addr)(m d n c:Nat)(w:World)(h:RR jE 22 (fun b=>b<w.heap.size) w a m d l)(X:m<=1000000)(hz:IR w w 3 b n c zs)(hn:n<=1000000):
 Calls prog 79 #[Z a m d,Z b n c] w (Pq w l zs n):=by
 have H:=O h;have Hz:=O hz;have y:=h.1;have a9:=hz.2.1;clear h hz;go_enter func79,ntmps79
 go_wp2_with((with_reducible refine(zu l a m d _ H.out X).mono ?_);rintro e w1 ⟨v1,rfl,t,E⟩;have Ho:=O t;have Hb:=O E;clear t E)
 go_loopw [6,7] (fun v u wr=>∃k l',k<=n/\u=.int .i64 (k:Int)/\tu l zs k=some l'/\oJ w wr v l'/\Below w w wr) (fun _ u _=>n-(intOf u).toNat)
 case atStart=>exact⟨0,l,by omega,rfl,rfl,Ho,Hb⟩
 case round=>
  obtain⟨k,l',hk,rfl,F,t,E⟩:=hrel;obtain⟨sa,sc,rfl,-⟩:=t.r.sl;have T:=zx F;rw[T,y]at t⊢;have Q:=O F;have D:=O t;have p:=O E;clear F t E;by_cases a6:k<n
  .have L:=Hz.go p
   have a3:=O L;obtain⟨b1,off,rfl,hlt,x0,x1,x2⟩:=L.at3 a6;clear L
   have W:tu l zs (k+1)=if oK zs k (zs.getD (k*3) 0) (zs.getD (k*3+1) 0)=false/\nT l' (zs.getD (k*3) 0) (zs.getD (k*3+1) 0) (zs.getD (k*3+2) 0)=true then some (qy l' (zs.getD (k*3) 0) (zs.getD (k*3+1) 0) (zs.getD (k*3+2) 0))else none:=by
    rw[tu,Q];rfl
   have C:=O W;clear W;generalize zs.getD (k*3) 0=s0 at*;generalize zs.getD (k*3+1) 0=p0 at*;generalize zs.getD (k*3+2) 0=v0 at*
   have R:∀j,j<k->zs.getD (j*3) 0=s0/\zs.getD (j*3+1) 0=p0->tu l zs n=none:=by
    rintro j hj ⟨h1,h2⟩;refine vU (k:=k+1) ?_ (by omega);rw[C,aj];rw[show oK zs k s0 p0=true from lM (f:=fun k=>(zs.getD (k*3) 0==s0)&& (zs.getD (k*3+1) 0==p0)) hj (by simp only[h1,h2];simp)];simp
   have a0:=O R;clear R;have i:=O (show Below wr wr (wr.alloc (.cells #[s0,p0,v0] 74))from(TH _ _).alloc (aa _) _);have x:=O (TL wr (.cells #[s0,p0,v0] 74));obtain⟨M,rfl⟩:∃M:World,M=wr:=⟨_,rfl⟩;go_wp2_with fail;clear x0 x1 x2
   go_loopw [9] (fun u wq=>∃j:Nat,j<=k/\u=.int .i64 (j:Int)/\(List.range j).any (fun k=>(zs.getD (k*3) 0==s0)&& (zs.getD (k*3+1) 0==p0))=false/\wq.heap[M.heap.size]? =some (.cells #[s0,p0,v0] 74 (0,0))/\Below M M wq) (fun u _=>k-(intOf u).toNat)
   case atStart=>exact⟨0,by omega,rfl,rfl,x,i⟩
   case round=>
    clear x i;obtain⟨j,hj,rfl,hd,z,S⟩:=hrel;have a8:=TK z;obtain⟨q0,q1,q2⟩:=kE z;have Hd:=O hd;have x:=O z;have i:=O S;clear hd z S;by_cases a5:j<k
    .obtain⟨b2,o2,e2,a7,z0,z1,z2⟩:=(a3.go i).at3 (k:=j) (by omega)
     cases e2
     have A:((zs.getD (j*3) 0==s0)&& (zs.getD (j*3+1) 0==p0))=false->(List.range (j+1)).any (fun k=>(zs.getD (k*3) 0==s0)&& (zs.getD (k*3+1) 0==p0))=false:=fun e=>(lL (f:=fun k=>(zs.getD (k*3) 0==s0)&& (zs.getD (k*3+1) 0==p0)) Hd).trans e
     have o:=a0 j a5;clear z2;generalize zs.getD (j*3) 0=r0 at z0 A o;generalize zs.getD (j*3+1) 0=r1 at z1 A o;have a1:=O A;have P:=O o;clear A o q2;cases w0:(r0==s0) <;>cases w1:(r1==p0)
     all_goals
      go_wp2_with fail
      go_quiet (fail)
      go_wp2_with fail
     iterate 3
      .go_roundw
       case rel=>exact⟨j+1,by omega,by go_num,a1 (by rw[w0,w1];rfl),by rw[World.heap_drewN];exact x,gV i _⟩
       case measure=>simp[intOf];omega
     .go_ret2
      exact VR ⟨P ⟨by simpa using w0,by simpa using w1⟩,rfl,I p (gV i _)⟩
    .obtain rfl:j=k:=by omega
     have N:=O (show oK zs j s0 p0=false from Hd);cases hpu:nT l' s0 p0 v0
     .have q:=O hpu;clear hpu
      go_wp2_with((with_reducible refine(MQ l' sa m sc s0 p0 v0 _ ((D.out.r.rr iD).go iD i.out) X q.out).mono ?_);rintro e w3 ⟨rfl,s⟩;have B:=O s;clear s)
      go_ret2;refine VR ⟨vU (k:=j+1) ?_ (by omega),rfl,I p (I i B)⟩;rw[C,aj (by rw[q];simp)]
     .have q:=O hpu;clear hpu
      go_wp2_with((with_reducible refine(Kq l' sa m sc s0 p0 v0 _ ((D.out.r.rr iD).go iD i.out) X q.out).mono ?_);rintro e w3 ⟨g,c3,rfl,K,s⟩;have B:=O s;rw[T,y]at K;have a2:=O (K.down (af p.size i.size));clear s K)
      go_roundw
      case rel=>exact⟨j+1,qy l' s0 p0 v0,by omega,by go_num,by rw[C,aq ⟨N,q⟩],a2,I p (I i B)⟩
      case measure=>simp[intOf];omega
  .obtain rfl:k=n:=by omega
   by_cases a4:k<=12
   all_goals
    go_wp2;go_ret2;exact VS ⟨l',_,Q,by simp[a4] <;>omega,D,p⟩
def oJ.keep{base:Nat}{w w':World}{v:Value}{l:List gM}(h:oJ base w v l)(e:gN (fun b=>base<=b/\b<w.heap.size) w w')(d:w.heap.size<=w'.heap.size):oJ base w' v l:=by
 obtain⟨f,h1,h2,h3,a⟩:=h;exact⟨f,h1,h2.keep jX e d,h3,fun q c=>⟨(a q c).1,(a q c).2.1,af (a q c).2.2 d⟩⟩
def mj.bare{D:Nat->Prop}{w:World}{x:gR}{f v s k:iJ}(h:mj D w x f v s k):mj D w {x with cf:=[]} f v s ⟨none,0,0⟩:=by
 obtain⟨c,lo,hi,h1,h2,h3,a,h5,b,d⟩:=h.q;exact⟨⟨h.at'.fs,h.at'.ws,h.at'.l,RR.nil _ _ _ _ _ _,h.at'.fn,h.at'.wn,h.at'.sn,by show 0<=1000000;omega,h.at'.fc,h.at'.wc,h.at'.nm⟩,c,lo,hi,h1,h2,h3,a,h5,b,RR.nil _ _ _ _ _ _⟩
def mj.newl{D E:Nat->Prop}{w:World}{x:gR}{f v s k:iJ}(h:iP D w x f v s k){base:Nat}(i:∀b,D b->b<base){a:Option Addr}{n c:Nat}{l:List gM}(j:oJ base w (.slice a n c) l)(o:n<=1000000)(e:∀b,D b->E b)(g:∀b,base<=b->b<w.heap.size->E b):mj E w {x with l:=l,cf:=[]} f v ⟨a,n,c⟩ ⟨none,0,0⟩:=by
 obtain⟨p,h1,h2,h3,m⟩:=id j;refine⟨⟨h.fs.kept (gN.refl _ _) e,h.ws.kept (gN.refl _ _) e,(jD.rr2 iD j.r).kept iD (gN.refl _ _) (fun b d=>g b d.1 d.2),RR.nil _ _ _ _ _ _,h.fn,h.wn,o,by show 0<=1000000;omega,h.fc,h.wc,h.nm⟩,p,base,w.heap.size,h1,(h2.rro jX).kept (BT jX _) (gN.refl _ _) (fun b d=>g b d.1 d.2),h3,m,?_,?_,RR.nil _ _ _ _ _ _⟩
 .exact h.fs.kept (gN.refl _ _) (fun b d=>⟨e b d,VR (i b d)⟩)
 .exact h.ws.kept (gN.refl _ _) (fun b d=>⟨e b d,VR (i b d)⟩)
def js(z:Int)(d:Nat)(w:World)(h1: -9223372036854775808<=z)(h2:z<=9223372036854775807)(c:d<=18)(a:GW w):Calls prog 28 #[z,.int .i64 (d:Int)] w (iZ w (.string (bs (iz z d)))):=by
 go_enter func28,ntmps28;go_wp2_with fail;refine(Fs z d w h1 h2 c a).mono ?_;rintro e f ⟨rfl,b:HQ _⟩;clear a;go_wp2;go_ret;exact⟨rfl,b⟩
def PT(w:World)(b:Nat)(p v:Value)(a:w.heap[b]? =some (.cells #[p,v] 87 (0,0))):(convert 83 214 (.pointer (J b))).run prog w=.ok (.pointer (J b)) w:=by
 obtain⟨i,hi⟩:∃i,prog.info? 85=some i/\i.size≠0:=by
  have h:(prog.info? 85).any (fun i=>decide (i.size≠0))=true:=by kernel_rfl
  cases hi:prog.info? 85 with
  |none=>rw[hi]at h;cases h
  |some i=>rw[hi]at h;exact⟨i,rfl,by simpa using h⟩
 exact Lib.run_to_unsafe (e:=87) (cells:=2) _ _ underlying83 underlying214 hi.1 hi.2 (by simp[World.shape?,a]) (by show 0<2;omega)
def Lu(w:World)(b:Nat)(p v:Value)(a:w.heap[b]? =some (.cells #[p,v] 87 (0,0))):(convert 214 83 (.pointer (J b))).run prog w=.ok (.pointer (J b)) w:=by
 obtain⟨i,hi⟩:∃i,prog.info? 85=some i:=by
  have h:(prog.info? 85).isSome=true:=by kernel_rfl
  exact eL.1 h
 exact Lib.run_from_unsafe (e:=87) (cells:=2) _ _ underlying214 underlying83 hi (by simp[World.shape?,a]) (by kernel_rfl)
def NO(w:World)(b:Nat):(binOp .neq 83 (.pointer (J b)) (.pointer (J b))).run prog w=.ok (.bool false) w:=by
 obtain⟨i,hi⟩:∃i,prog.info? 85=some i:=by
  have h:(prog.info? 85).isSome=true:=by kernel_rfl
  exact eL.1 h
 exact Lib.run_neq_ptr_same w _ underlying83 hi
def rE{w:World}{B:Nat}{e:TypeId}{k n:Nat}{v:Value}{xs:List Value}{b:Nat}(h:w.ownsRow B e k v n xs)(a:v.ownBlock≠some b)(j:Nat)(u:Value):(w.setCell ⟨b,j,none⟩ u).ownsRow B e k v n xs:=by
 obtain⟨h1,h2⟩:=h;refine⟨h1,?_⟩
 obtain h2|⟨g,cap,cells,rfl,hg,hc,hrest⟩:=h2
 .exact VR h2
 .exact VS ⟨g,cap,cells,rfl,hg,(TI _ _ _ _ (fun e=>a (by rw[e];rfl))).trans hc,hrest⟩
def kY(b:Nat)(w w':World):Prop:=∀(k:Nat)(cs:Array Value)(T:TypeId)(fr:Nat×Nat),w.heap[k]? =some (.cells cs T fr)->T≠5->k≠b->w'.heap[k]? =some (.cells cs T fr)
def kY.refl(b:Nat)(w:World):kY b w w:=fun _ _ _ _ h _ _=>h
def kY.trans{b:Nat}{w d e:World}(h1:kY b w d)(h2:kY b d e):kY b w e:=fun k cs T fr h a c=>h2 k cs T fr (h1 k cs T fr h a c) a c
def kY.below{b:Nat}{w w':World}(h:Below w w w'):kY b w w':=fun k cs T fr a _ _=>(h.block k (TK a)).trans a
def kY.put{b j:Nat}{w w':World}{u:Value}(h:kY b w w'):kY b w (w'.setCell ⟨b,j,none⟩ u):=fun k cs T fr d c a=>(TI _ _ _ _ (fun e=>a e)).trans (h k cs T fr d c a)
def kY.grown{b B n m:Nat}{w c w':World}{v:Value}{xs:List Value}(h:kY b w c)(a:c.ownsRow B 5 m v n xs)(i:c.grownBy w' v.ownBlock):kY b w w':=fun k cs T fr j d f=>by
 have h1:=h k cs T fr j d f;refine(i.block k (TK h1) (fun e=>?_)).trans h1
 obtain ⟨rfl,_⟩|⟨g,cap,l,rfl,_,h2,_⟩:=a.2
 .cases e
 .cases e
  rw[h2]at h1;cases h1;exact d rfl
def DC(x:Value)(w:World):(callFunc 127 #[x]).run prog w=.ok (.value x) w:=by kernel_rfl
def Fw(B b:Nat)(xs:List Value)(w:World)(h:Lib.IsBuilder 87 5 B b xs w):
 Calls prog 93 #[U b] w fun e w'=>e=.returned (.tuple #[])/\Lib.BuilderAt 87 5 B b (.pointer (J b)) xs w'/\Below B w w'/\kY b w w':=by
 obtain ⟨h1,v,h2,h3,a⟩|⟨h1,v,h2,h3,a⟩:=h
 .have c0:=VV h2 0
  have f0:=gD h2 0;have k1:=PT w b _ _ h2;have g:=Lu w b _ _ h2;have f:=DC (.pointer (J b)) w;have c:=O h2;have d:=O h3;clear h2 h3;go_enter func93,ntmps93;go_wp2;go_end0;exact⟨rfl,⟨h1,v,gG c 0 _,rE d a 0 _,a⟩,(TH B w).setCell (p:=J b) h1 _,(kY.refl b w).put⟩
 .have c0:=VV h2 0
  have f:=NO w b;have c:=O h2;have d:=O h3;clear h2 h3;go_enter func93,ntmps93;go_wp2;go_end0;exact⟨rfl,⟨h1,v,c,d,a⟩,TH _ _,kY.refl _ _⟩
def RC:(prog.info? 5).map (fun i=>(i.zero,i.size,i.bytes))=some (some (.int .u8 0),1,1):=by kernel_rfl
def Iz(B b:Nat)(l m:List UInt8)(w:World)(h:Lib.IsBuilder 87 5 B b (Lib.byteCells l) w)(P:l.length+m.length<=1000000)(N:B<=w.heap.size):
 Calls prog 55 #[U b,.string (bs m)] w fun e w'=>e=.returned (.tuple #[m.length,.nilIface])/\Lib.IsBuilder 87 5 B b (Lib.byteCells (l++m)) w'/\Below B w w'/\kY b w w':=by
 obtain⟨K,hi,A,C,D⟩:=info_parts RC;have y:(Lib.byteCells l).length=l.length:=Lib.byteCells_length l;have z:(bs m).size=m.length:=rfl;go_enter func55,ntmps55;go_wp2_with fail;refine(Fw B b _ w h).mono ?_;rintro e Q ⟨rfl,⟨h1,v,h2,h3,F⟩,i,q⟩;have c1:=VV h2 1;have hlt:=TK h2
 go_wp2_with(at_builtin;refine Lib.wpList_append_own_string _ rfl _ _ 24 9 rfl B 5 K underlying24 underlying9 hi A C D _ _ _ rfl h3 (bs m) rfl ?c3 ?c4 ?c5 ?_)
 case c3=>unfold maxLen;omega
 case c4=>omega
 case c5=>have:=i.size;omega
 intro s E c a _;have j:E.heap[b]? =some (.cells #[U b,v] 87 (0,0)):=(a.block b hlt (fun e=>F e.symm)).trans h2;have M:=VV j 1;have f1:=gD j 1;have o:=(i.grown a (by have:=i.size;omega) (fun k H=>(h3.lt k H).1)).setCell (p:=⟨b,1,none⟩) h1 s;have u:=O (show kY b w (E.setCell ⟨b,1,none⟩ s)from(q.grown h3 a).put);have d:=Lib.BuilderAt.put (T:=87) (e:=5) h1 j (bs':=Lib.byteCells l++Lib.strCells (bs m)) (by rw[al,Lib.strCells_length,y,z];exact c) (by decide);have f:Lib.byteCells l++Lib.strCells (bs m)=Lib.byteCells (l++m):=(Lib.byteCells_append l m).symm;rw[f]at d
 obtain⟨x,n',cap,rfl⟩:∃x n' cap,s=.slice x n' cap:=by
  obtain ⟨r,_⟩|⟨g,cap,L,r,_⟩:=c.2
  .exact⟨_,_,_,r⟩
  .exact⟨_,_,_,r⟩
 have t:=O o;have n:=O d;clear o d q f c a h3 c1;go_wp2;go_ret2;exact⟨rfl,VS n.out,t,u⟩
def Ey{α:Type}(R:pB α)(k:Nat)(T:TypeId)(S:Nat->Prop)(w:World)(v:Value)(l:List α):Prop:=
 ∃css:List (List Value),css.length=l.length/\(∀c∈css,c.length=k)/\w.ownsRow 0 T k v l.length css.flatten/\ ∀(i:Nat)(x:α)(cs:List Value),l[i]? =some x->css[i]? =some cs->R S w x cs
def A8{α:Type}(R:pB α)(k:Nat)(T:TypeId)(S:Nat->Prop)(e:Nat)(w:World)(v:Value)(l:List α):Prop:=
 ∃css:List (List Value),css.length=l.length/\(∀c∈css,c.length=k)/\w.ownsRow 0 T k v l.length css.flatten/\ ∀(i:Nat)(x:α)(cs:List Value),i≠e->l[i]? =some x->css[i]? =some cs->R S w x cs
def A8.keep{α:Type}{R:pB α}{k:Nat}(ok:kR k R){T:TypeId}{S a:Nat->Prop}{e:Nat}{w w':World}{v:Value}{l:List α}(h:A8 R k T S e w v l)(d:gN (fun b=>S b\/v.ownBlock=some b) w w')(n:∀b,S b->a b):A8 R k T a e w' v l:=by
 obtain⟨css,h1,h2,h3,f⟩:=h;refine⟨css,h1,h2,?_,fun i x cs m o j=>ok.kept (f i x cs m o j) (d.mono (fun b h=>VR h)) n⟩;obtain⟨l,r⟩:=h3;refine⟨l,r.imp id ?_⟩;rintro⟨g,cap,c,e,p,q,s⟩;exact⟨g,cap,c,e,p,(d g (VS (by rw[e];rfl))).trans q,s⟩
def A8.there{α:Type}{R:pB α}{k:Nat}{T:TypeId}{S:Nat->Prop}{e:Nat}{w:World}{g n c:Nat}{l:List α}(h:A8 R k T S e w (.slice (J g) n c) l){i:Nat}(hi:i<l.length):w.there g (i*k) k:=by
 obtain⟨css,h1,h2,h3,b⟩:=h;have a:jD (fun _ _ (_:α) _=>True) k T 0 w (.slice (J g) n c) l:=⟨css,h1,h2,h3,fun _ _ _ _ _=>trivial⟩;exact a.there hi
def Ey.form{α:Type}{R:pB α}{k:Nat}{T:TypeId}{S:Nat->Prop}{w:World}{v:Value}{l:List α}(h:Ey R k T S w v l)(h0:0<l.length):∃g cap,v=.slice (J g) l.length cap/\g<w.heap.size/\l.length<=cap:=by
 obtain⟨css,h1,h2,h3,d⟩:=h
 obtain ⟨e,e0⟩|⟨g,cap,c,e,f,a,b,_⟩:=h3.2
 .omega
 .exact⟨g,cap,e,TK a,b⟩
def Ey.rr{α:Type}{R:pB α}{k:Nat}(ok:kR k R){T:TypeId}{S d:Nat->Prop}{w:World}{g n c:Nat}{l:List α}(h:Ey R k T S w (.slice (J g) n c) l)(s:∀b,S b->d b)(q:d g):RR R k d w (J g) n c l:=by
 obtain⟨css,h1,h2,h3,p⟩:=h
 obtain ⟨e,_⟩|⟨y,cap,u,e,A,B,t,C,D,E⟩:=h3.2
 .cases e
 .cases e
  refine⟨rfl,t,fun z=>⟨g,0,rfl,q,fun i x o=>?_⟩⟩;have hi:i<l.length:=(TG.1 o).1;have a:css[i]? =some css[i]:=ae (by omega);refine⟨css[i],ok.kept (p i x _ o a) (gN.refl _ _) s,fun j v m=>?_⟩
  have r:j<k:=by
   have:=(TG.1 m).1;rw[h2 css[i] (cW _)]at this;exact this
  have f:=h3.cells (g:=g) rfl (i*k+j) v (by rw[mC css i _ j h2 a r];exact m);rw[Addr.add_mid,<- cN]at f;exact f
def A8.set{α:Type}{R:pB α}{k:Nat}(ok:kR k R){T:TypeId}{S:Nat->Prop}{w:World}{g n c:Nat}{l:List α}{i:Nat}(h:A8 R k T S i w (.slice (J g) n c) l)(C:¬S g)(hi:i<l.length){x:α}{cs:List Value}(u:R S w x cs):
 Ey R k T S (w.setCells g (i*k) cs) (.slice (J g) n c) (l.set i x):=by
 obtain⟨css,h1,h2,h3,A⟩:=h;have a:=ok.len u;have q:gN S w (w.setCells g (i*k) cs):=(gK g cs (i*k) w).mono (fun b h e=>C (e▸h));refine⟨css.set i cs,by simp[h1],?_,?_,?_⟩
 .intro d f
  obtain f|rfl:=bH f
  .exact h2 d f
  .exact a
 .rw[dL]
  obtain ⟨e,_⟩|⟨L,cap,p,e,D,E,v,F,H,K⟩:=h3.2
  .cases e
  .cases e
   have m:=Ui k (show i+1<=l.length from hi);rw[df]at m;have r:=Ui k v
   have t:(css.set i cs).flatten.length=l.length*k:=by
    rw[lK (k:=k) _ (fun d f=>by
     obtain f|rfl:=bH f
     .exact h2 d f
     .exact a),dL,h1]
   refine⟨t,VS ⟨g,c,_,rfl,D,tH E (i*k) cs (by rw[a,H];omega),v,F,?_,?_⟩⟩
   .simp[a];omega
   .have B:(p.toList.take (i*k)).length=i*k:=by rw[bn,cD (by simp;omega)]
    have s:(p.toList.take (i*k)++cs).length=i*k+k:=by rw[al,B,a]
    rw[tG css i cs h2 (by omega) a,<- K,fH,aM (by rw[s];exact m),s,List.take_take,cD (by omega),List.drop_take,a]
 .intro j y ds o f
  rw[cF]at o f;by_cases e:i=j
  .subst e
   rw[aq rfl,aq (by omega)]at o f;cases o;cases f;exact ok.kept u q (fun b h=>h)
  .rw[aj e]at o f
   exact ok.kept (A j y ds (fun z=>e z.symm) o f) q (fun b h=>h)
def GL{w:World}{gl:Nat}{T:TypeId}{cs:List Value}(h:w.heap[gl]? =some (.cells cs.toArray T (0,0))):∀j u,cs[j]? =some u->w.cell? ((⟨gl,0,none⟩:Addr).add j)=some u:=
 World.news_of_block (cs:=cs.toArray) (t:=T) (fr:=(0,0)) h
def Ba{g a n n' c c':Nat}{w w':World}(h:(Result.ok (Value.slice (J g) n c) w:Result Value)=.ok (Value.slice (J a) n' c') w'):g=a:=by cases h;rfl
def Bb{α:Type}{v a:α}{w w':World}(h:(Result.ok v w:Result α)=.ok a w'):w=w':=by cases h;rfl
def vq{ops:Array Oper}{D:List Oper}{o:Oper}{a:Act}{Q:Exit->Act->World->Prop}{w:World}{α:Type}{R:pB α}{k:Nat}(ok:kR k R){T K:TypeId}{z:Value}{p:Nat}(a7:prog.underlying K=some (.slice T))(hT:(prog.info? T).map (fun i=>(i.zero,i.size,i.bytes))=some (some z,k,p))(hz:z.cells.size=k)(hk:0<k)(a8:p<=10000)
 (b0:o.guard=none)(s x:Operand)(ho:o.op=.call {callee:=.builtin .append,args:=#[s,x],argTypes:=#[K,K]}){e0:Nat}(hs:a.eval s=.slice (J e0) 0 0)(he:w.heap[e0]? =some (.cells #[] T (0,0))){S:Nat->Prop}{ra:Option Addr}{n c:Nat}{l:List α}(f:a.eval x=.slice ra n c)(hr:RR R k S w ra n c l)(hn0:0<n)(hn:n<=1000000)(hS:∀b,S b->b<e0)
 (h:∀B w',Ey R k T S w' B l->w.grownBy w' (some e0)->(∀b,B.ownBlock=some b->e0<=b/\b<w'.heap.size)->(∀b off g,ra=some ⟨b,off,none⟩->B.ownBlock=some g-> ∀i cs,i<n->cs.length=k->w.rangeAt b (off+i*k) cs->w'.rangeAt g (i*k) cs)->wpList prog ops Q D (a.put o.dst B) w'):wpList prog ops Q (o::D) a w:=by
 obtain⟨b,off,e,E,r⟩:=hr.2.2 hn0;have C:=hr.1
 have a9:∀i:Nat,i<l.length-> ∃cs,∀x,l[i]? =some x->R S w x cs/\w.rangeAt b (off+i*k) cs:=by
  intro i hi;obtain⟨cs,h1,h2⟩:=r i l[i] (ae hi);exact⟨cs,fun x f=>by rw[ae hi]at f;cases f;exact⟨h1,h2⟩⟩
 obtain⟨css,a1,t⟩:∃css:List (List Value),css.length=l.length/\ ∀(i:Nat)(x:α)(cs:List Value),l[i]? =some x->css[i]? =some cs->R S w x cs/\w.rangeAt b (off+i*k) cs:=by
  have:∀m,m<=l.length-> ∃css:List (List Value),css.length=m/\ ∀(i:Nat)(x:α)(cs:List Value),l[i]? =some x->css[i]? =some cs->R S w x cs/\w.rangeAt b (off+i*k) cs:=by
   intro m
   induction m with
   |zero=>exact fun _=>⟨[],rfl,fun i x cs _ r=>by simp at r⟩
   |succ m ih=>
    intro hm;obtain⟨css,h1,h2⟩:=ih (by omega);obtain⟨cs,h3⟩:=a9 m (by omega);refine⟨css++[cs],by simp[h1],fun i x ds f q=>?_⟩;rw[List.getElem?_append]at q;split at q
    .exact h2 i x ds f q
    .have:i=m:=by
      have:=(TG.1 q).1;simp at this;omega
     subst this;simp[h1]at q;subst q;exact h3 x f
  exact this l.length (aa _)
 have y:∀d∈css,d.length=k:=by
  intro d q;obtain⟨i,hi,rfl⟩:=dJ q;obtain⟨x,f⟩:∃x,l[i]? =some x:=⟨_,ae (by omega)⟩;exact ok.len (t i x _ f (ae hi)).1
 have a3:=lK (k:=k) css y;have hlt:=TK he;have N:w.ownsRow e0 T k (.slice (J e0) 0 0) 0 []:=⟨by simp,VS ⟨e0,0,#[],rfl,aa _,he,aa _,by unfold maxLen;omega,by simp,by simp⟩⟩
 have M:∀u∈css.flatten,u.oneCell'=true:=by
  intro u P;obtain⟨d,q,b5⟩:=eP.1 P;obtain⟨i,hi,rfl⟩:=dJ q;obtain⟨x,f⟩:∃x,l[i]? =some x:=⟨_,ae (by omega)⟩;exact ok.one (t i x _ f (ae hi)).1 u b5
 refine mS b0 s x K ho e0 T z k p a7 hT hz hk _ 0 [] hs N ra n c css.flatten f (by rw[a3,a1,C]) ?_ M (fun A=>by rw[e]at A;cases A) (by rw[aV];exact af (cB hn a8) (by omega)) (by omega) (cE hlt) ?_
 .intro _
  refine⟨b,off,e,fun j u hj=>?_⟩
  have b1:j<css.length*k:=by rw[<- a3];exact(TG.1 hj).1
  have v:j/k<css.length:=BF (by rw[cd];exact b1);obtain⟨x,f⟩:∃x,l[j/k]? =some x:=⟨_,ae (by omega)⟩;have X:=ae v
  have h5:=(t (j/k) x _ f X).2 (j%k) u (by
   rw[<- mC css (j/k) _ (j%k) y X (cx _ hk),cd (j/k) k,dc];exact hj)
  rw[show off+j=off+j/k*k+j%k by rw[cd (j/k) k,cN,dc]];exact h5
 .intro B w' h1 h2
  rw[aV,bD]at h1
  have a6:w'.ownsRow 0 T k B l.length css.flatten:=by
   rw[C];exact⟨h1.1,h1.2.imp id fun⟨g,cap,W,e,q1,q2⟩=>⟨g,cap,W,e,aA _,q2⟩⟩
  refine h B w' ⟨css,a1,y,a6,fun i x cs f r=>ok.kept (t i x cs f r).1 ((nW h2).mono (fun b E=>⟨Nat.lt_trans (hS b E) hlt,fun A=>?_⟩)) (fun b h=>h)⟩ h2 (fun b E=>h1.lt b E) ?_;rotate_left
  .intro b2 b6 g A F i cs hi L b3 j u P
   rw[e]at A;cases A
   have v:j<k:=by rw[<- L];exact(TG.1 P).1
   obtain⟨x,f⟩:∃x,l[i]? =some x:=⟨_,ae (by omega)⟩;have a0:css[i]? =some css[i]:=ae (by omega);have a2:css[i].length=k:=y _ (cW _);obtain⟨H,a5⟩:∃H,css[i][j]? =some H:=⟨css[i][j]'(by rw[a2];exact v),ae (by rw[a2];exact v)⟩;have b4:=(t i x _ f a0).2 j H a5;have a4:=b3 j u P
   have e4:H=u:=by rw[b4]at a4;exact aE a4
   subst e4
   obtain ⟨e5,_⟩|⟨g',cap,W,e5,_⟩:=h1.2
   .rw[e5]at F;cases F
   .subst e5
    have e6:g'=g:=by simpa[Value.ownBlock]using F
    subst e6;have r:=h1.cells (g:=g') rfl (i*k+j) H (by rw[mC css i _ j y a0 v];exact a5);rw[Addr.add_mid,aV]at r;exact r
  have e3:e0=b:=by simpa[Value.ownBlock]using A
  have:=hS b E;omega
def vt{ops:Array Oper}{k:List Oper}{o:Oper}{a:Act}{Q:Exit->Act->World->Prop}{w:World}(L:o.guard=none)(s x:Operand)
 (W:o.op=.call {callee:=.builtin .append,args:=#[s,x],argTypes:=#[62,62]}){S:Nat->Prop}{fa:Option Addr}{n c:Nat}{xs:List Int}(q0 q1 q2:Int){gl:Nat}
 (hs:a.eval s=.slice fa n c)(hown:jN S w fa n c xs)(hx:a.eval x=.slice (J gl) 1 1)(hg:w.heap[gl]? =some (.cells #[q0,q1,q2] 70 (0,0)))(hlen:n<=10000000)(hS:∀b,S b->b<w.heap.size)
 (h:∀A c' w',jN (fun b=>S b\/(w.heap.size<=b/\b<w'.heap.size)) w' A (n+1) c' (xs++[q0,q1,q2])->gN (fun b=>b<w.heap.size/\ ¬S b) w w'->(∀g,(Value.slice fa n c).ownBlock=some g-> ∀j,j<n*3->w'.cell? ⟨g,j,none⟩=w.cell? ⟨g,j,none⟩)->w.grownBy w' (Value.slice fa n c).ownBlock->wpList prog ops Q k (a.put o.dst (.slice A (n+1) c')) w'):
 wpList prog ops Q (o::k) a w:=by
 obtain⟨i,r,B,d,C⟩:=sd Tryz.infoFilm3;have t:=GL (cs:=[.int .i64 q0,.int .i64 q1,.int .i64 q2]) hg
 obtain⟨D,v,w',E,h2,h3,q,h5⟩:=run_append_lies (P:=prog) w 62 o.type 0 70 i _ 3 24 underlying62 r B d C rfl (by omega) _ n _ hown.1
  (J gl) 1 1 [q0,q1,q2] rfl t (by simp[Value.oneCell']) (by omega) (by unfold maxLen;omega) (by omega) (aA _) _ rfl
 have l:∀g,(Value.slice fa n c).ownBlock=some g-> ∀j,j<n*3->w'.cell? ⟨g,j,none⟩=w.cell? ⟨g,j,none⟩:=by
  intro g f j N
  obtain ⟨e,_⟩|⟨g2,cap,F,e,_,z,_,_,H,_⟩:=hown.1.2
  .rw[e]at f;cases f
  .rw[e]at f
   have R:g2=g:=by simpa[Value.ownBlock]using f
   subst R;cases e;by_cases m:n+1<=c
   .have u:=run_append_room (P:=prog) w 62 o.type 70 i underlying62 r g2 n c F z (J gl) 1 1 [q0,q1,q2] (by rw[d];rfl) t (by simp[Value.oneCell']) m (by rw[d,H];simp;omega)
    obtain rfl:=Ba (E.symm.trans u);have a1:=World.ownsRow.cellAt h2 j (by omega);have a2:=World.ownsRow.cellAt hown.1 j N;rw[a1,a2,aF (by rw[hown.1.1];exact N)]
   .obtain⟨X,a0,u,_,M⟩:=run_append_arg_grows (P:=prog) w 62 o.type 70 i _ 3 24 underlying62 r B d C rfl (by omega) (J g2) n c (xs.map (Value.int .i64)) hown.1.1 (World.ownsRow.cells hown.1 rfl)
     (J gl) 1 1 [q0,q1,q2] rfl t (by omega) (by unfold maxLen;omega) (by omega)
    obtain rfl:=Bb (E.symm.trans u);have hlt:=(hown.1.lt g2 rfl).2;exact(nW M).cell (p:=⟨g2,j,none⟩) ⟨hlt,by simp⟩
 refine eT L fun K T=>?_
 unfold Oper.wp;simp[execOp,W,resolve,invoke,builtin,hs,hx,E,Result.andThen];refine T _ _ (h (J D) v w' ⟨by rw[aT];exact h2,fun b y=>?_⟩ ?_ l h3)
 .have e:D=b:=by simpa[Value.ownBlock]using y
  subst e
  obtain q|q:=q
  .exact VR (hown.2 D q)
  .exact VS ⟨Nat.le_of_eq q.symm,h5⟩
 .exact(nW h3).mono (fun b y=>⟨y.1,fun e=>y.2 (hown.2 b e)⟩)
def wX(D:Nat->Prop)(a:Option Addr)(n c:Nat):Nat->Prop:=fun b=>D b/\(Value.slice a n c).ownBlock≠some b
structure yC (D:Nat->Prop) (w:World) (y:gR) (f v s k:iJ) (lq:List jT) (kk:Nat) (q:jT) (a:Option Addr) (n c b off:Nat):Prop where
 eq:qt lq=y.l
 rr:RR (Sh rL (Value.slice s.a s.n s.c).ownBlock) 22 D w s.a s.n s.c lq
 ap:qu lq
 at':lq[kk]? =some q
 sa:s.a=some ⟨b,off,none⟩
 row:w.rangeAt b (off+kk*22) (gX q.y.s a n c)
 db:D b
 film:jN (fun b=>(D b/\(Value.slice s.a s.n s.c).ownBlock≠some b)/\q.lo<=b/\b<q.hi) w a n c q.y.zs
 gl:q.y.s.e9.size<=9223372036854775807
 cn:n<=1000000
 fs:IRp (wX D a n c) w 2 f.a f.n f.c y.fs
 ws:IRp (wX D a n c) w 2 v.a v.n v.c y.ws
 cf:RR oB 2 (wX D a n c) w k.a k.n k.c y.cf
def mj.pick{D:Nat->Prop}{w:World}{y:gR}{f v s k:iJ}(h:mj D w y f v s k){l:Nat}(u:l<s.n):∃i q a n c b off,yC D w y f v s k i l q a n c b off:=by
 obtain⟨i,lo,hi,h1,h2,h3,o,h5,p,r⟩:=h.q;obtain⟨b,off,q,cs,e,g,j,⟨a,n,c,rfl,hf,x,t⟩,z⟩:=h2.at u;have A:=o q (aL j)
 have d:∀b,D b/\(b<lo\/hi<=b)->wX D a n c b:=fun b g=>⟨g.1,fun m=>by
  have:=(hf.2 b m).2
  obtain h|h:=g.2<;>omega⟩
 exact⟨i,q,a,n,c,b,off,h1,h2,h3,j,e,z,g,hf,t,x,h5.kept (gN.refl _ _) d,p.kept (gN.refl _ _) d,r.kept ky (gN.refl _ _) d⟩
def yC.other{D:Nat->Prop}{w:World}{y:gR}{f v s k:iJ}{j:List jT}{g:Nat}{q:jT}{a:Option Addr}{n c b off:Nat}(h:yC D w y f v s k j g q a n c b off){i:Nat}{x:jT}{w':World}{cs:List Value}(hi:i≠g)(r:j[i]? =some x)(p:Sh rL (Value.slice s.a s.n s.c).ownBlock D w' x cs):jE (wX D a n c) w' x.y cs:=by
 obtain⟨a',n',c',e,hf,o,m⟩:=p;refine⟨a',n',c',e,hf.irp.kept (gN.refl _ _) (fun b d=>⟨d.1.1,fun l=>?_⟩),o,hf.none,m⟩;have h1:=(h.film.2 b l).2
 obtain h2|h2:=h.ap i g x q r h.at' hi
 .have:=d.2;omega
 .have:=d.2;omega
def yC.rowY{D:Nat->Prop}{w w':World}{y:gR}{f v s k:iJ}{g:List jT}{e:Nat}{q:jT}{a:Option Addr}{n c b off:Nat}(h:yC D w y f v s k g e q a n c b off){T:TypeId}{u:Value}(o:Ey (Sh rL (Value.slice s.a s.n s.c).ownBlock) 22 T D w' u g):A8 jE 22 T (wX D a n c) e w' u y.l:=by
 obtain⟨css,h1,h2,h3,j⟩:=o;rw[<- h.eq];refine⟨css,by rw[mD];exact h1,h2,by rw[mD];exact h3,fun i x cs hi p m=>?_⟩;obtain⟨z,d,rfl⟩:=CW p;exact h.other hi d (j i z cs d m)
def yC.notrow{D:Nat->Prop}{w:World}{y:gR}{f v s k:iJ}{g:List jT}{e:Nat}{q:jT}{a:Option Addr}{n c b off:Nat}(h:yC D w y f v s k g e q a n c b off):wX D a n c b:=
 ⟨h.db,fun d=>(h.film.2 b d).1.2 (by rw[h.sa];rfl)⟩
def yC.still{D:Nat->Prop}{w w':World}{y:gR}{f v s k:iJ}{lq:List jT}{P:Nat}{q:jT}{a:Option Addr}{n c b off:Nat}(h:yC D w y f v s k lq P q a n c b off)(h0:iP D w y f v s k)(e:gN (wX D a n c) w w')(S:∀g,(Value.slice a n c).ownBlock=some g-> ∀j,j<n*3->w'.cell? ⟨g,j,none⟩=w.cell? ⟨g,j,none⟩):iP D w' y f v s k:=by
 refine⟨h.fs.kept e (fun b d=>d.1),h.ws.kept e (fun b d=>d.1),?_,h.cf.kept ky e (fun b d=>d.1),h0.fn,h0.wn,h0.sn,h0.kn,h0.fc,h0.wc,h0.nm⟩;refine⟨h0.l.1,h0.l.2.1,fun T=>⟨b,off,h.sa,h.db,fun i x N=>?_⟩⟩;rw[<- h.eq]at N;obtain⟨z,r,rfl⟩:=CW N;obtain⟨b2,Q,B,a1,t⟩:=h.rr.2.2 T;rw[h.sa]at B;cases B;by_cases hi:i=P
 .subst hi
  rw[h.at']at r;cases r;have o:=h.film.irp;refine⟨gX q.y.s a n c,⟨a,n,c,rfl,⟨o.1,o.2.1,fun E=>?_⟩,?_,h.film.none,h.gl⟩,fun j u X=>(e.cell (p:=⟨b,off+i*22+j,none⟩) h.notrow).trans (h.row j u X)⟩
  .obtain ⟨m,C⟩|⟨g,cap,a0,m,_⟩:=h.film.1.2
   .cases m;omega
   .cases m
    have A:(Value.slice (J g) n c).ownBlock=some g:=rfl;refine⟨g,0,rfl,(h.film.2 g A).1.1,fun j H=>?_⟩;obtain⟨b5,o5,R,_,F⟩:=o.2.2 E;cases R;rw[aV,S g A j H];have:=F j H;rw[aV]at this;exact this
  .obtain⟨cs,⟨a',n',c',m,hf,K,a2⟩,W⟩:=t i q h.at'
   subst m;have C:some (Value.slice a' n' c')=some (Value.slice a n c):=(W 21 _ rfl).symm.trans (h.row 21 _ rfl);cases C;exact K
 .obtain⟨cs,L,M⟩:=t i z r
  refine⟨cs,iD.kept (h.other hi r L) e (fun b d=>d.1),jb M e h.notrow⟩
structure Ez (D:Nat->Prop) (w w':World):Prop where
 os:w'.os=w.os
 tape:w'.tape=w.tape
 output:w'.output=w.output
 size:w.heap.size<=w'.heap.size
 kept:gN (fun b=>b<w.heap.size/\ ¬D b) w w'
def Ez.below{D:Nat->Prop}{w w':World}(h:Ez D w w'){B:Nat}(a:∀b,D b->B<=b)(d:B<=w.heap.size):Below B w w':=
 ⟨h.os,h.tape,h.output,h.size,fun b e=>h.kept b ⟨by omega,fun c=>by have:=a b c;omega⟩⟩
structure TB (t:List UInt8) (Iq0:Nat->Nat->World->Prop) (Ix:List PanicEntry->World->Prop) (l n:Nat):Prop where
 lines:∀g i W,Iq0 g i W->W.heap[g]? =some (.cells (ji (io [] t)).toArray 9 (0,0))
 gw:∀g i W,Iq0 g i W->GW W
 go:∀g i W W',Iq0 g i W->Below W.heap.size W W'->Iq0 g i W'
 skip:∀g i W s,Iq0 g i W->(io [] t)[i]? =some s->ti (iA [] s)=true->Iq0 g (i+1) W
 yield:∀g i W s A,Iq0 g i W->(io [] t)[i]? =some s->ti (iA [] s)=false->ua W (J A) (iA [] s).length (iA [] s).length (iA [] s) W.heap.size->
  YieldAt Fence.wide n prog l #[.int .i64 ((i:Int)+1),Z (J A) (iA [] s).length (iA [] s).length] W fun e W'=>
   (e=.returned (.bool true)/\Iq0 g (i+1) W')\/ ∃chain,e=.panicked chain/\Ix chain W'
def IA(t:List UInt8)(b:Nat->Nat->World->Prop)(c:List PanicEntry->World->Prop)(e:Ending)(w':World):Prop:=
 (e=.returned (.tuple #[])/\ ∃g,b g (io [] t).length w')\/ ∃a,e=.panicked a/\c a w'
def Lv(t:List UInt8)(d:Nat->Nat->World->Prop)(x:List PanicEntry->World->Prop)(l n b:Nat)(w:World)(hI:TB t d x l n)(z:w.cell? (J b)=some (.string (bs t)))(hg:GW w)(ht:t.length<=100000)
 (h0:d w 0 (w.alloc (.cells (ji (io [] t)).toArray 9))):
 Calls prog 61 #[.func (.yield l) #[] #[],U b] w (IA t d x):=by
 have p:=O hI;have W:=O hg;have hN:=qI t [];have T:=O (uF t []);clear hI hg;go_enter func61,ntmps61;go_wp2_with fail;refine(Iq t w W (by omega)).mono ?_;rintro e w1 ⟨rfl,rfl⟩;generalize(w.alloc (.cells (ji (io [] t)).toArray 9))=w1 at*;generalize w.heap.size=g at*;have S:=O h0;clear h0 z W;obtain⟨N,E⟩:∃N,(io [] t).length=N:=⟨_,rfl⟩;rw[E]at hN⊢;go_upto_region 1 with fail
 go_loopw [9] (fun R wr=>∃i:Nat,i<=N/\R=.int .i64 (i:Int)/\d g i wr) (fun R _=>N-(intOf R).toNat)
 case atStart=>exact⟨0,aA _,rfl,S⟩
 case round=>
  clear S;obtain⟨i,hi,rfl,F⟩:=hrel;have r:=O F;clear F;by_cases a5:i<N
  .obtain⟨s,B⟩:∃s,(io [] t)[i]? =some s:=⟨(io [] t)[i]'(by omega),ae _⟩
   have c0:wr.cell? ⟨g,i,none⟩=some (.string (bs s)):=by
    rw[VV (p.lines g i wr r) i,bo,ji,aR,B];rfl
   have a2:s.length<=1000000:=by have:=T s (aL B);simp at this;omega
   have Hs:=O B;clear B;go_wp2_with fail;refine(Ir s wr a2).mono ?_;rintro e C ⟨A,rfl,hw,z⟩;have u:=O hw;have D:=O (p.go g i wr C r z);have X:=O (fun v hv=>uE s [] v hv);have k:=O (p.skip g i C s D Hs);have m:=O (p.yield g i C s A D Hs);have a8:=pH s [];clear z c0 r;generalize iA [] s=ws at*
   cases ws with
   |nil=>
    have j:=O (k rfl);clear k m u hw;go_wp2
    go_roundw
    case rel=>exact⟨i+1,by omega,by go_num,j⟩
    case measure=>simp[intOf];omega
   |cons wd o=>
    have L:=X wd aG
    cases wd with
    |nil=>exact absurd rfl L
    |cons y c=>
     clear L
     have a4:C.cell? (J A)=some (.string (bs (y::c))):=by
      obtain⟨q,off,e1,e2,e3⟩:=hw.2.2 (by simp);cases e1;exact e3 0 _ rfl
     have a7:(((y::c)::o).length:Int)≠0:=by simp;omega
     have a6:((y::c)::o).length<=1000010:=by omega
     clear hw;by_cases a:y=35
     .have j:=O (k (by subst a;rfl))
      have a1:(((bs (y::c))[0]'(by show 0<(y::c).length;simp)).toNat:Int)=35:=by
       show(y.toNat:Int)=35
       subst a;rfl
      clear a k m u;go_wp2
      go_roundw
      case rel=>exact⟨i+1,by omega,by go_num,j⟩
      case measure=>simp[intOf];omega
     .have h:ti ((y::c)::o)=false:=by
       show((some y:Option UInt8)==some 35)=false
       rw[ak];intro e;exact a (aE e)
      have a1:¬(((bs (y::c))[0]'(by show 0<(y::c).length;simp)).toNat:Int)=35:=by
       show¬(y.toNat:Int)=35
       intro e
       have a0:y.toNat=(35:UInt8).toNat:=by
        show y.toNat=35
        omega
       exact a (UInt8.toNat.inj a0)
      obtain⟨fn,tm,a3,bd,Q,hR⟩:=m h u;rw[aH]at Q;have M:=O hR;clear a k m u h hR;go_upto_region 4 with fail;refine(wpIn_wide (n:=n+1)).1 ?_
      gi_wp2
      refine M.mono ?_;rintro e w3 (⟨rfl,H⟩|⟨f,rfl,K⟩)
      .have j:=O H
       clear H M Q
       gi_wp2
       go_wp2
       go_roundw
       case rel=>exact⟨i+1,by omega,by go_num,j⟩
       case measure=>simp[intOf];omega
      .have P:=O (show IA t d x (.panicked f) w3 from VS ⟨f,rfl,K⟩)
       clear K M Q
       gi_wp2
       exact⟨rfl,P⟩
  .obtain rfl:i=N:=by omega
   have hr:IA t d x (.returned (.tuple #[])) wr:=VR ⟨rfl,g,by rw[E];exact r⟩;have P:=O hr;clear hr;go_wp2;go_end0;exact P
def MS(l:List gM)(x:jd)(a b:Option Addr)(m d n c:Nat)(w:World)(h:RR jE 22 (fun b=>b<w.heap.size) w a m d l)(j:m<=1000000)(i:IR w w 3 b n c x.zs)(k:n<=1000000):
 Calls prog 79 #[Z a m d,Z b n c] w (fun e w'=>∃v,e=.returned (.tuple #[v,.bool (lr l x)])/\Below w w w'):=by
 have f:n=x.zs.length/3:=by rw[i.1];omega
 refine(wW l x.zs a b m d n c w h j i k).mono ?_;rintro e w' (⟨h1,rfl,g⟩|⟨l',v,h1,rfl,_,g⟩)
 .exact⟨_,by unfold lr;rw[<- f,h1],g⟩
 .exact⟨_,by unfold lr;rw[<- f,h1],g⟩
def Ks{s k:ByteArray}{ks:List ByteArray}{j:Nat}(h:ks[j]? =some k)(h0:rx s (ks.take j)=false):rx s (ks.take (j+1))=(s==k):=wV h h0
def MT{s k:ByteArray}{ks:List ByteArray}{j i:Nat}(h:ks[j]? =some k)(b:j<i)(a:(s==k)=true):rx s (ks.take i)=true:=by
 refine yI (k:=j) (x:=k) ?_ a;rw[cZ,aq b];exact h
def Kt(a b:ByteArray):(a.toList==b.toList)=(b==a):=by
 show _=(b.data==a.data)
 rw[bJ,dz,dz];exact⟨fun h=>by rw[BI h],fun h=>by rw[ByteArray.toList_eq,ByteArray.toList_eq,h]⟩
def C4(x:gR)(f v s k:iJ)(w:World)(hf:RR jE 22 (fun b=>b<w.heap.size) w s.a s.n s.c x.l)(hn:s.n<=1000000)
 (hc:RR oB 2 (fun b=>b<w.heap.size) w k.a k.n k.c x.cf)(hk:k.n<=1000000):
 Calls prog 76 #[ry x f v s k] w (iZ w (.bool (jo x.l x.cf))):=by
 have Hf:=O hf;have Hc:=O hc;have r:=hc.1;clear hf hc;obtain⟨sa,m,T⟩:=s;obtain⟨ka,n,kc⟩:=k;simp only at*;have a6:=O (show hU (w.alloc (.cells (iw x f v ⟨sa,m,T⟩ ⟨ka,n,kc⟩).toArray 38)) w 38 x f v ⟨sa,m,T⟩ ⟨ka,n,kc⟩from TL w _);have a1:=O ((TH w w).alloc (aa _) (.cells (iw x f v ⟨sa,m,T⟩ ⟨ka,n,kc⟩).toArray 38));unfold ry;go_enter func76,ntmps76;go_upto_region 1 with fail;refine gI (fun W=>hU W w 38 x f v ⟨sa,m,T⟩ ⟨ka,n,kc⟩/\Below w w W) ⟨a6,a1⟩ ?_;clear a6 a1;rintro w1 ⟨hg,g⟩;have hl:=hg.lt;obtain⟨_,_,_,_,_,_,_,_,P⟩:=hg.cells;have Hg:=O hg;have b5:=O g;clear hg g;go_wp2
 go_loopw [3] (fun C wr=>∃i:Nat,i<=n/\C=.int .i64 (i:Int)/\(x.cf.take i).all (lr x.l)=true/\(List.range i).all (od (x.cf.map jd.nm))=true/\Below w1 w1 wr) (fun C _=>n-(intOf C).toNat)
 case atStart=>exact⟨0,by omega,rfl,rfl,rfl,TH _ _⟩
 case round=>
  obtain⟨i,hi,rfl,ho,hd,g⟩:=hrel;have Ho:=O ho;have Hd:=O hd;have X:=O g;have q:=O (I b5 g);clear ho g hd P;obtain⟨_,_,_,_,_,_,_,_,P⟩:=(Hg.go X).cells;have hgl:w.heap.size<wr.heap.size:=ab hl X.size;have C8:=O P;by_cases b4:i<n
  .have R:=Hc.go ky q
   obtain⟨b1,off,y,cs,rfl,hlt,hy,⟨a2,n2,c2,rfl,S,c1,b8,b2⟩,L⟩:=R.at b4;have b7:=O R;clear R;have x0:=L 0 _ rfl;have x1:=L 1 _ rfl;rw[bE]at x0
   have B:(x.cf.map jd.nm)[i]? =some y.nm:=by rw[aR,hy];rfl
   have b0:od (x.cf.map jd.nm) i=(!rx y.nm ((x.cf.map jd.nm).take i)&&kI y.nm):=by unfold od;rw[B]
   have H:od (x.cf.map jd.nm) i=false->jo x.l x.cf=false:=by
    intro e;unfold jo vV;rw[aU,r,jK b4 e];simp
   have K:lr x.l y=false->jo x.l x.cf=false:=by
    intro e;unfold jo;rw[Ew hy e];rfl
   have Hz:=O (S.ir (fun _ h=>h));have a7:=O b2;have Hy:=O hy;have N:=O b0;have E:=O H;have a0:=O K;have D:=O (TL wr (.cells #[y.nm,Z a2 n2 c2] 77));clear L hy S B b0 H K b8 b2;go_upto_region 5 with fail;refine gI (fun W=>W.heap[wr.heap.size]? =some (.cells #[y.nm,Z a2 n2 c2] 77 (0,0))/\Below wr wr W) ⟨D,gY (TH _ _)⟩ ?_;clear D x0 x1 P;rintro w2 ⟨o,a9⟩;have c0:=TK o;have y0:=(VV o 0).trans rfl;have D:=O o;have a4:=O a9;clear o a9;cases hq:kI y.nm
   .have Q:=O hq;clear hq
    go_wp2_with((with_reducible refine(pA y.nm _ a7.out).mono ?_);rintro e w3 ⟨A,g⟩;rw[Q]at A;subst A;have M:=O g;clear g)
    go_ret;exact⟨by rw[E (by rw[N,Q];simp)];rfl,I q (I a4 M)⟩
   .have Q:=O hq;clear hq
    go_wp2_with((with_reducible refine(pA y.nm _ a7.out).mono ?_);rintro e w3 ⟨A,g⟩;rw[Q]at A;subst A;have M:=O g;clear g y0)
    go_loopw [5] (fun C wq=>∃j:Nat,j<=i/\C=.int .i64 (j:Int)/\rx y.nm ((x.cf.map jd.nm).take j)=false/\Below w2 w2 wq) (fun C _=>i-(intOf C).toNat)
    case atStart=>exact⟨0,by omega,rfl,rfl,M⟩
    case round=>
     obtain⟨j,hj,rfl,hm,F⟩:=hrel;have Hm:=O hm;have b6:=O F;have d:=O (I a4 F);have o:=(F.block _ c0).trans D;have y0:=(VV o 0).trans rfl;have y1:=(VV o 1).trans rfl;have c6:=TK o;have P:=(d.cell (p:=⟨w.heap.size,8,none⟩) hgl).trans C8;clear hm F o;by_cases b9:j<i
     .obtain⟨b3,o3,z,c5,e3,c4,S,⟨a3,n3,c3,rfl,_,_,_,_⟩,L⟩:=(b7.go ky d).at (show j<n by omega)
      cases e3;have z0:=L 0 _ rfl;rw[bE]at z0
      have B:(x.cf.map jd.nm)[j]? =some z.nm:=by rw[aR,S];rfl
      have a8:=O B;clear L S B y1;cases hq:(z.nm.toList==y.nm.toList)
      all_goals
       have Hq:=O ((Kt z.nm y.nm).symm.trans hq);go_wp2_with fail
       go_quiet (fail)
       go_wp2_with fail
      .go_roundw
       case rel=>exact⟨j+1,by omega,by go_num,(Ks a8 Hm).trans Hq,gV b6 _⟩
       case measure=>simp[intOf];omega
      .go_ret
       exact⟨by rw[E (by rw[N,MT a8 b9 Hq];rfl)];rfl,I q (gV d _)⟩
     .obtain rfl:j=i:=by omega
      have c7:=(d.cell (p:=⟨w.heap.size,7,none⟩) hgl).trans ((Hg.go X).cells).2.2.2.2.2.2.2.1;cases u:lr x.l y
      all_goals
       have t:=O u;clear u
       go_wp2_with((with_reducible refine(MS x.l y sa a2 m T n2 c2 _ ((Hf.out.go iD q.out).go iD d.out) hn (Hz.out.go d.out) c1).mono ?_);rintro e w5 ⟨v5,A,g⟩;rw[t]at A;subst A;have a5:=O g;clear g)
      .go_ret
       exact⟨by rw[a0 t];rfl,I q (I d a5)⟩
      .go_roundw
       case rel=>exact⟨j+1,by omega,by go_num,(BV Hy Ho).trans t,jl Hd (by rw[N,Hm,Q];rfl),I X (I d a5)⟩
       case measure=>simp[intOf];omega
  .obtain rfl:i=n:=by omega
   have u:jo x.l x.cf=decide ((i:Int)<=4):=by
    unfold jo vV;have h1:=Ho.out;rw[<- r,bf]at h1;rw[h1,aU,r,Hd];simp;omega
   have t:=O u;clear u;go_wp2;go_ret;exact⟨by rw[t];simp<;>rfl,q⟩
def Dl(l:List jQ)(a:Option Addr)(n c:Nat)(w:World)(h:RR EQ 10 (fun b=>b<w.heap.size) w a n c l)(f:Ch l):
 Calls prog 50 #[Z a n c] w (iZ w (.int .i64 0)):=by
 have H:=O h;have g:=O f;clear h f;go_enter func50,ntmps50;go_wp2_with fail;refine(wm l a n c w H g).mono ?_;rintro e i ⟨rfl,d⟩;go_wp2;go_ret;exact⟨rfl,d⟩
def KO(l:List jQ)(a:Option Addr)(n c k:Nat)(g:jQ)(w:World)(h:RR EQ 10 (fun b=>b<w.heap.size) w a n c l)(o:Ch l)(p:l[k]? =some g):
 Calls prog 111 #[Z a n c,g.nm] w (iZ w (.int .i64 (k:Int))):=by
 have C:n<=40:=by rw[<- h.1];exact o.len
 have B:k<n:=by rw[<- h.1];exact(TG.1 p).1
 have H:=O h;have x:=O o;have s:=O p;clear h o p;go_enter func111,ntmps111;go_wp2
 go_loopw [5] (fun r wr=>∃i:Nat,i<=k/\r=.int .i64 (i:Int)/\Below w w wr) (fun r _=>k-(intOf r).toNat)
 case atStart=>exact⟨0,by omega,rfl,TH _ _⟩
 case round=>
  obtain⟨i,hi,rfl,d:HQ _⟩:=hrel
  have u:i<n:=by omega
  obtain⟨b1,off,y,cs,rfl,hlt,f,⟨rfl,m⟩,q⟩:=(H.go wl d).at u;have z:=q 0 _ rfl;rw[bE]at z;by_cases t:i<k
  .have j:=x.ne k i g y s f t
   have v:(y.nm.toList==g.nm.toList)=false:=by rw[ak];exact fun e=>j e.symm
   clear j q f m;go_wp2
   go_roundw
   case rel=>exact⟨i+1,by omega,by go_num,by first|exact d|exact gV d _⟩
   case measure=>simp[intOf];omega
  .obtain rfl:i=k:=by omega
   have e:y=g:=by have:=f.symm.trans s;simpa using this
   subst e
   have A:(y.nm.toList==y.nm.toList)=true:=by simp
   clear q f m;go_wp2;go_ret;exact⟨rfl,by first|exact d|exact gV d _⟩
def ER(l:List jQ)(a:Option Addr)(n c k:Nat)(g:jQ)(w:World)(h:RR EQ 10 (fun b=>b<w.heap.size) w a n c l)(m:Ch l)(o:l[k]? =some g):
 Calls prog 82 #[Z a n c,g.nm] w (iZ w (.tuple #[.int .i64 (k:Int),oZ])):=by
 have H:=O h;have i:=O m;have p:=O o;clear h m o;go_enter func82,ntmps82;go_wp2_with fail;refine(wm l a n c w H i).mono ?_;rintro e q ⟨rfl,d:HQ _⟩;go_wp2_with fail;refine(KO l a n c k g q (H.go wl d) i p).mono ?_;rintro e s ⟨rfl,f⟩;have j:=O (I d f);clear f
 have r:¬((k:Int) <0):=by omega
 go_wp2;go_ret2;exact⟨rfl,j⟩
def PF(w:World)(n:Nat)(P:List Int->Prop)(e:Ending)(w':World):Prop:=
 ∃v zs,e=.returned v/\w'.ownsRow w 3 1 v n (zs.map (Value.int .i64))/\P zs/\Below w w w'
def Tryz.infoInt1:(prog.info? 3).map (fun i=>(i.zero,i.size,i.bytes))=some (some (.int .i64 0),1,8):=by kernel_rfl
def Jx(n:Nat)(w:World)(q:n<=1000):
 Calls prog 52 #[.int .i64 (n:Int)] w (PF w n (fun zs=>zs=List.replicate n 10000000)):=by
 go_enter func52,ntmps52;go_wp2
 go_loopw [3,4] (fun v j wr=>∃i:Nat,i<=n/\j=.int .i64 (i:Int)/\wr.ownsRow w 3 1 v i ((List.replicate i (10000000:Int)).map (Value.int .i64))/\Below w w wr) (fun _ j _=>n-(intOf j).toNat)
 case atStart=>exact⟨0,by omega,rfl,World.ownsRow_nil _ _ _ _,TH _ _⟩
 case round=>
  obtain⟨i,hi,rfl,m,h⟩:=hrel;have g:=O m;have k:=O h;have l:=h.size;clear m h;by_cases p:i<n
  .go_wp2_with(refine je underlying133 Tryz.infoInt1 rfl (by omega) (by omega) rfl (.tmp 10) (.tmp 11) rfl w _ i (List.replicate i 10000000) rfl (g.alloc _) (fun _=>True) _ 1 1 [10000000] rfl (uC rfl rfl rfl) (fun e=>by cases e) (by omega) (by simp;omega) ?_;intro r s b a;have d:=O b;have c:=O a;clear b a)
   have o:=O (jF k g c (by omega) l);have f:=O (show List.replicate i (10000000:Int)++[10000000]=List.replicate (i+1) 10000000 by rw[<- List.replicate_succ'])
   go_roundw
   case rel=>exact⟨i+1,by omega,by go_num,by rw[<- f];exact d,o⟩
   case measure=>simp[intOf];omega
  .obtain rfl:i=n:=by omega
   go_wp2;go_ret;exact⟨_,_,rfl,g,rfl,k⟩
def Fx(p q:Addr)(n:Nat)(w:World):
 CallsDIn Fence.wide n prog 35 #[.pointer (some p),.pointer (some q)] .returning w fun e d w'=>e=.returned (.tuple #[])/\d=.returning/\w'=w:=by
 refine callsDIn_of_wpSIn func35 rfl trivial fun a cs c=>?_
 apply wpSIn_seq;apply wpSIn_region;simp[wpOpsSIn,go_sem,recoverD,c,ntmps35,Exit.thenS];refine wpSIn_of_wpIn rfl ((wpIn_wide (n:=n)).2 (wp_mono (Q:=fun e a' w'=>e=.normal/\a'.defers=[]/\w'=w) ?_ ?_))
 .go_wp2_with fail
 .rintro e a' w' ⟨rfl,b,rfl⟩
  exact⟨b,_,by cases a;simp_all,_,by simp[results,results35],rfl,rfl,rfl⟩
def NQ(p q:Nat)(w w':World):Prop:=hU w' p 38 lz ij ij ij ij/\w'.heap[q]? =some (.cells #[.int .i64 5] 44 (0,0))/\(∀k,k<w.heap.size->k≠p->k≠q->w'.heap[k]? =w.heap[k]?)/\Below (min p q) w w'
def xp(p q:Nat)(j:p≠q)(a:List PanicEntry)(n:Nat)(w:World){cs:Array Value}{e0:Value}(m:w.heap[p]? =some (.cells cs 38 (0,0)))(C:cs.size=9)(o:w.heap[q]? =some (.cells #[e0] 44 (0,0))):
 CallsDIn Fence.wide n prog 35 #[U p,U q] (.panicking ({v:=.iface 103 (.agg #[]),recovered:=false}::a)) w fun e K w'=>
  e=.returned (.tuple #[])/\K=.panicking ({v:=.iface 103 (.agg #[]),recovered:=true}::a)/\NQ p q w w':=by
 refine callsDIn_of_wpSIn func35 rfl trivial fun S cs r=>?_
 apply wpSIn_seq;apply wpSIn_region;simp[wpOpsSIn,go_sem,recoverD,r,ntmps35,Exit.thenS];refine wpSIn_of_wpIn rfl ((wpIn_wide (n:=n)).2 (wp_mono (Q:=fun e a' w'=>e=.normal/\a'.defers=[]/\NQ p q w w') ?_ ?_));rotate_left
 .rintro e a' w' ⟨rfl,l,F⟩
  exact⟨l,_,rfl,_,by simp[results,results35],rfl,rfl,F⟩
 have A:=TK m;have B:=TK o;have f:=(TH w w).alloc (aa _) (.cells #[] 103);have s:=O ((f.block p A).trans m);have h:=(f.block q B).trans o;have l:=VV h 0;have z:=gD h 0;have t:=O h;have i:=O f;have R:=O r;clear h f m o r
 have P:∀x:World,(Instr.typeAssert (.iface 103 (.agg #[])) 20 103 true).run prog x=.ok (.tuple #[.agg #[],true]) x:=fun _=>by kernel_rfl
 go_upto_region 7 with fail
 have N:w.heap.size<(w.alloc (.cells #[] 103)).heap.size:=by simp
 generalize(w.alloc (.cells #[] 103))=w1 at*;clear l z
 have g:∀d:World,d=w1.setCells p 0 (iw lz ij ij ij ij)->d.heap[q]? =some (.cells #[e0] 44 (0,0)):=fun d E=>by
  rw[E];exact(gK p _ 0 w1 q (fun e=>j e.symm)).trans t
 have c:=O g;clear g
 go_wp2_with(refine ja lz ij ij ij ij s C rfl (.tmp 0) (.tmp 11) rfl rfl rfl ?_;intro d (D:HQ _) (E2:HQ _);have L:=VV (c d E2) 0;have M:=gD (c d E2) 0)
 have u:=O (c _ E2);refine⟨?_,gG u 0 (.int .i64 5),?_,?_⟩
 .exact gF D (J q) (fun e=>j e.symm) (.int .i64 5)
 .intro k H h1 h2
  refine(TI _ _ _ _ (fun e=>h2 e)).trans ?_;rw[E2];exact(gK p _ 0 w1 k h1).trans (i.block k H)
 .have y:Below (min p q) w d:=by
   rw[E2];exact ig (b:=p) (Nat.min_le_left _ _) _ _ (i.mono (by omega))
  exact y.setCell (p:=J q) (Nat.min_le_right _ _) _
def jZ{ops:Array Oper}{b:List Oper}{e:Oper}{d:Act}{w:World}{Q:Exit->Act->World->Prop}{g:Nat}{T:TypeId}{x:gR}{f v s k:iJ}(h:hU w g T x f v s k)(i:Region.wanted e (yielded ops d.tmps)=true)(y:Operand)(m:e.op=.load 38 y)
 (o:d.eval y=.pointer (J g))(l:wpList prog ops Q b (d.put e.dst (.agg #[x.nm,x.i9,x.p9,x.stop,x.i4,Z f.a f.n f.c,Z v.a v.n v.c,Z s.a s.n s.c,Z k.a k.n k.c])) w):wpList prog ops Q (e::b) d w:=
 pV i fun K j=>wp_load_mid 38 y m g 0 o (iw x f v s k) _ h.range underlying38 rfl Tryz.infoLens (j _ _ l)
def sw(x:gR)(f v s k:iJ)(w:World)(S:iP (fun b=>b<w.heap.size) w x f v s k):
 Calls prog 44 #[ry x f v s k] w (iZ w (.bool (iI x))):=by
 have m:=O S;clear S;have H:=O (show hU (w.alloc (.cells (iw x f v s k).toArray 38)) w 38 x f v s k from TL w _);have F:=O ((TH w w).alloc (aa _) (.cells (iw x f v s k).toArray 38))
 have u:∀j,j<6->jO x j=false->iI x=false:=fun j hj h=>jK hj h
 have K:jx x.i9 x.fs f.n=jO x 2:=by show _=jx x.i9 x.fs (x.fs.length/2);rw[<- qW m.fs]
 have L:VY x.i4 x.ws v.n=jO x 3:=by show _=VY x.i4 x.ws (x.ws.length/2);rw[<- qW m.ws]
 have t:jO x 0=true->jO x 1=true->jO x 2=true->jO x 3=true->jO x 4=true->jO x 5=true->iI x=true:=by
  intro h0 h1 h2 h3 h4 h5
  show(List.range 6).all (jO x)=true
  simp[List.range,List.range.loop,h0,h1,h2,h3,h4,h5]
 have i:=O u;have r:=O K;have A:=O L;have C:=O t;clear u K L t;unfold ry;go_enter func44,ntmps44;go_upto_region 1 with fail;refine gI (fun X=>hU X w 38 x f v s k/\Below w w X) ⟨H,F⟩ ?_;clear H F;rintro T ⟨E,c⟩;have R:=E.lt;obtain⟨c0,c1,c2,_⟩:=E.cells;have C1:=O c1;have C2:=O c2;have g:=O (m.go c);have q:=O E;have o:=O c;clear E c c1 c2;have a:=TH T T;cases q0:kI x.nm<;>cases q1:bt x.i9 0 1000000000<;>cases q2:bt x.p9 1 1000000000
 all_goals
  have M:=O q0;have N:=O q1;have P:=O q2;clear q0 q1 q2
  go_upto_region 3 with(first
   |((with_reducible refine(pA x.nm _ m.out.nm).mono ?_);rintro e w2 ⟨d,c⟩;rw[M]at d;subst d;replace a:=I a c;have c1:=(a.cell (p:=⟨w.heap.size,1,none⟩) R).trans C1;clear c)
   |((with_reducible refine(ix x.i9 0 1000000000 _).mono ?_);rintro e w3 ⟨d,c⟩;rw[N]at d;subst d;replace a:=I a c;have c2:=(a.cell (p:=⟨w.heap.size,2,none⟩) R).trans C2;clear c)
   |((with_reducible refine(ix x.p9 1 1000000000 _).mono ?_);rintro e w4 ⟨d,c⟩;rw[P]at d;subst d;replace a:=I a c;clear c))
 iterate 4
  .go_ret
   exact⟨by rw[i 0 (by omega) M];rfl,I o a⟩
 iterate 3
  .go_ret
   exact⟨by rw[i 1 (by omega) (by show pN x.i9 x.p9=false;unfold pN;rw[N,P];rfl)];rfl,I o a⟩
 have Hs:=O (show jO x 1=true from by show pN x.i9 x.p9=true;unfold pN;rw[N,P];rfl);clear c0 c1 c2;cases q2:jO x 2
 .have R2:=O q2;clear q2
  go_wp2_with(first
   |(refine it (q.go a) rfl (.tmp 1) rfl rfl ?_)
   |((with_reducible refine(qX x f v s k _ ((g.out.go a).fs.ir (fun _ h=>h)) m.out.fn).mono ?_);rintro e Q ⟨d,c⟩;rw[r,R2]at d;subst d;replace a:=I a c;clear c))
  go_ret;exact⟨by rw[i 2 (by omega) R2];rfl,I o a⟩
 have R2:=O q2;clear q2;cases q3:jO x 3
 .have z:=O q3;clear q3
  go_wp2_with(first
   |(refine it (q.go a) rfl (.tmp 1) rfl rfl ?_)
   |(refine jZ (q.go a) (by rfl) (.tmp 1) rfl rfl ?_)
   |((with_reducible refine(qX x f v s k _ ((g.out.go a).fs.ir (fun _ h=>h)) m.out.fn).mono ?_);rintro e Q ⟨d,c⟩;rw[r,R2]at d;subst d;replace a:=I a c;clear c)
   |((with_reducible refine(vu x f v s k _ ((g.out.go a).ws.ir (fun _ h=>h)) m.out.wn).mono ?_);rintro e W ⟨d,c⟩;rw[A,z]at d;subst d;replace a:=I a c;clear c))
  go_ret;exact⟨by rw[i 3 (by omega) z];rfl,I o a⟩
 have z:=O q3;clear q3;cases q4:iW x.stop x.l
 .have B:=O q4;clear q4
  go_wp2_with(first
   |(refine it (q.go a) rfl (.tmp 1) rfl rfl ?_)
   |(refine jZ (q.go a) (by rfl) (.tmp 1) rfl rfl ?_)
   |((with_reducible refine(qX x f v s k _ ((g.out.go a).fs.ir (fun _ h=>h)) m.out.fn).mono ?_);rintro e Q ⟨d,c⟩;rw[r,R2]at d;subst d;replace a:=I a c;clear c)
   |((with_reducible refine(vu x f v s k _ ((g.out.go a).ws.ir (fun _ h=>h)) m.out.wn).mono ?_);rintro e W ⟨d,c⟩;rw[A,z]at d;subst d;replace a:=I a c;clear c)
   |((with_reducible refine(uY x f v s k _ (g.out.go a).l m.out.sn).mono ?_);rintro e w7 ⟨d,c⟩;rw[B]at d;subst d;replace a:=I a c;clear c))
  go_ret;exact⟨by rw[i 4 (by omega) B];rfl,I o a⟩
 have B:=O q4;clear q4
 have y:iI x=jo x.l x.cf:=by
  cases q5:jo x.l x.cf
  .exact i 5 (by omega) q5
  .exact C M Hs R2 z B q5
 have D:=O y;clear y
 go_wp2_with(first
  |(refine it (q.go a) rfl (.tmp 1) rfl rfl ?_)
  |(refine jZ (q.go a) (by rfl) (.tmp 1) rfl rfl ?_)
  |((with_reducible refine(qX x f v s k _ ((g.out.go a).fs.ir (fun _ h=>h)) m.out.fn).mono ?_);rintro e Q ⟨d,c⟩;rw[r,R2]at d;subst d;replace a:=I a c;clear c)
  |((with_reducible refine(vu x f v s k _ ((g.out.go a).ws.ir (fun _ h=>h)) m.out.wn).mono ?_);rintro e W ⟨d,c⟩;rw[A,z]at d;subst d;replace a:=I a c;clear c)
  |((with_reducible refine(uY x f v s k _ (g.out.go a).l m.out.sn).mono ?_);rintro e w7 ⟨d,c⟩;rw[B]at d;subst d;replace a:=I a c;clear c)
  |((with_reducible refine(C4 x f v s k _ (g.out.go a).l m.out.sn (g.out.go a).cf m.out.kn).mono ?_);rintro e w8 ⟨d,c⟩;subst d;replace a:=I a c;clear c))
 go_ret;exact⟨by rw[D];rfl,I o a⟩
def sB(x:gR)(f v s k:iJ)(w:World)(i:iP (fun b=>b<w.heap.size) w x f v s k):
 Calls prog 22 #[jG x f v s k] w (iZ w (err (iI x) 120)):=by
 have l:=O i;clear i;have c:=O (show hU (w.alloc (.cells (iw x f v s k).toArray 38)) w 38 x f v s k from TL w _);have a:=O ((TH w w).alloc (aa _) (.cells (iw x f v s k).toArray 38));unfold jG;go_enter func22,ntmps22;go_upto_region 1 with fail;refine gI (fun j=>hU j w 38 x f v s k/\Below w w j) ⟨c,a⟩ ?_;clear c a;rintro m ⟨c:HQ _,a:HQ _⟩;cases hv:iI x
 all_goals
  have g:=O hv;clear hv
  go_wp2_with(first
   |(refine it c rfl (.tmp 1) rfl rfl ?_)
   |((with_reducible refine(sw x f v s k _ (l.out.go a.out)).mono ?_);rintro e n ⟨h,d:HQ _⟩;rw[g]at h;subst h))
  go_ret;exact⟨by rw[g];rfl,I a d⟩

def yN(r:jL)(f v s k:iJ)(m:Value):List Value:=iw r.x f v s k++[.int .i64 r.at_,m]
def nx(w:World)(g:Nat)(r:jL)(f v s k:iJ)(m:Value):Prop:=w.heap[g]? =some (.cells (yN r f v s k m).toArray 107 (0,0))
def pI(Rd:Nat->(Nat->Prop)->jL->World->Prop)(g c:Nat)(D:Nat->Prop)(r:jL)(ws:List (List UInt8))(W:World)(e:Ending)(W':World):Prop:=
 Below g W W'/\(∀k,k<W.heap.size-> ¬D k->W'.heap[k]? =W.heap[k]?)/\
  ((∃q,kp r ws=some q/\e=.returned (.tuple #[])/\ ∃D':Nat->Prop,(∀b,D' b->D b\/W.heap.size<=b)/\Rd (c+1) D' q W')\/(kp r ws=none/\e=iX))
structure vD (B g:Nat) (Rd:Nat->(Nat->Prop)->jL->World->Prop):Prop where
 lens:∀c D r W,Rd c D r W-> ∃f v s k m,nx W g r f v s k m/\iP (fun b=>B<=b/\b<W.heap.size) W r.x f v s k
 own:∀c D r W b,Rd c D r W->D b->(b=g\/B<=b)/\b<W.heap.size
 kept:∀c D r W W',Rd c D r W->(∀k,k=g\/B<=k->k<W.heap.size->W'.heap[k]? =W.heap[k]?)->W.heap.size<=W'.heap.size->Rd c D r W'
 read:∀c D r W ws A,Rd c D r W->ua W (J A) ws.length ws.length ws W.heap.size->ws≠[]->(∀s∈ws,s.length<=100000)->ws.length<=100001->c<=100001->B<=W.heap.size->GW W->TW g W->
  Calls prog 37 #[U g,Z (J A) ws.length ws.length] W (pI Rd g c D r ws W)
def TW.mono{N M:Nat}{w:World}(h:TW N w)(b:N<=M):TW M w:=by
 refine⟨af h.glo b,h.par,?_,h.oth.mono b,h.rdr.mono b,?_⟩
 .obtain⟨a,n,c,h1,h2⟩:=h.ord
  exact⟨a,n,c,h1,h2.kept (fun _ _=>rfl) b⟩
 .obtain⟨a,n,c,h1,h2⟩:=h.kin
  exact⟨a,n,c,h1,h2.kept (fun _ _=>rfl) b⟩
structure tl (N:Nat) (w W:World):Prop where
 len:hU W N 38 lz ij ij ij ij
 err:W.heap[N+2]? =some (.cells #[oZ] 44 (0,0))
 ptr:W.heap[N+4]? =some (.cells #[U (N+3)] 104 (0,0))
 dfr:W.heap[N+6]? =some (.deferred (some []))
 bel:Below N w W
 gw:GW W
 tw:TW N W
 sz:N+8<=W.heap.size
def tl.kept{N:Nat}{w W W':World}(h:tl N w W)(d:14<=N)(c:∀k,k<N+7->k≠N+3->k≠N+1->W'.heap[k]? =W.heap[k]?)(a:Below N W W'):tl N w W':=
 ⟨(c N (by omega) (by omega) (by omega)).trans h.len,(c (N+2) (by omega) (by omega) (by omega)).trans h.err,(c (N+4) (by omega) (by omega) (by omega)).trans h.ptr,(c (N+6) (by omega) (by omega) (by omega)).trans h.dfr,
   h.bel.trans a,h.gw.kept (fun b hlt=>a.block b (by omega)) (by have:=h.gw.sz;have:=a.size;have:=h.sz;omega),h.tw.below a,by have:=a.size;have:=h.sz;omega⟩
structure yF (Rd:Nat->(Nat->Prop)->jL->World->Prop) (N:Nat) (w:World) (t:List UInt8) (rc:Loop) (gl i:Nat) (W:World):Prop where
 base:tl N w W
 line:∃n:Int,W.heap[N+1]? =some (.cells #[n] 3 (0,0))
 loop:W.heap[N+7]? =some (.loop rc)
 lines:W.heap[gl]? =some (.cells (ji (io [] t)).toArray 9 (0,0))
 hgl:N+8<=gl
 rd:∃(c:Nat)(D:Nat->Prop)(r:jL),c<=i/\lR 0 Ae (io [] t)=lR i r ((io [] t).drop i)/\Rd c D r W/\ ¬D gl
structure LA (N:Nat) (w:World) (t:List UInt8) (chain:List PanicEntry) (W:World):Prop where
 ch:chain=[{v:=.iface 103 (.agg #[]),recovered:=false}]
 base:tl N w W
 no:∃n:Nat,lR 0 Ae (io [] t)=.error n/\W.heap[N+1]? =some (.cells #[.int .i64 (n:Int)] 3 (0,0))
def yO{α:Type}{L:List α}{i:Nat}{s:α}(h:L[i]? =some s):L.drop i=s::L.drop (i+1):=by
 have hi:=(TG.1 h).1;rw[dG hi,(TG.1 h).2]
def Fy{L:List (List UInt8)}{i:Nat}{s:List UInt8}(r:jL)(h:L[i]? =some s)(a:ti (iA [] s)=true):lR i r (L.drop i)=lR (i+1) r (L.drop (i+1)):=by
 rw[yO h,lR,aq a]
def LB{L:List (List UInt8)}{i:Nat}{s:List UInt8}{r q:jL}(h:L[i]? =some s)(b:ti (iA [] s)=false)(a:kp r (iA [] s)=some q):lR i r (L.drop i)=lR (i+1) q (L.drop (i+1)):=by
 rw[yO h,lR,aj (by rw[b];simp),a]
def LC{L:List (List UInt8)}{i:Nat}{s:List UInt8}{r:jL}(h:L[i]? =some s)(b:ti (iA [] s)=false)(a:kp r (iA [] s)=none):lR i r (L.drop i)=.error (i+1):=by
 rw[yO h,lR,aj (by rw[b];simp),a]
def yF.go{Rd:Nat->(Nat->Prop)->jL->World->Prop}{N:Nat}{w:World}{t:List UInt8}{d:Loop}{gl i:Nat}{W W':World}(g:vD (N+8) (N+3) Rd)(f:14<=N)(h:yF Rd N w t d gl i W)(b:Below W W W'):yF Rd N w t d gl i W':=by
 have l:=h.base.sz
 have a:∀k,k<W.heap.size->W'.heap[k]? =W.heap[k]? :=fun k a=>b.block k a
 obtain⟨n,j⟩:=h.line;obtain⟨c,D,r,h1,h2,h3,e⟩:=h.rd
 exact⟨h.base.kept f (fun k hlt _ _=>a k (by omega)) (b.mono (by omega)),⟨n,(a _ (by omega)).trans j⟩,(a _ (by omega)).trans h.loop,(a _ (TK h.lines)).trans h.lines,h.hgl,
  c,D,r,h1,h2,g.kept c D r W W' h3 (fun k _ hlt=>a k hlt) b.size,e⟩
def yF.skip{Rd:Nat->(Nat->Prop)->jL->World->Prop}{N:Nat}{w:World}{t:List UInt8}{a:Loop}{gl i:Nat}{W:World}{s:List UInt8}(h:yF Rd N w t a gl i W)(e:(io [] t)[i]? =some s)(d:ti (iA [] s)=true):yF Rd N w t a gl (i+1) W:=by
 obtain⟨c,D,r,h1,h2,h3,b⟩:=h.rd;exact⟨h.base,h.line,h.loop,h.lines,h.hgl,c,D,r,by omega,h2.trans (Fy r e d),h3,b⟩
def ow(N:Nat)(a:Loop)(i:Nat)(W:World):World:=(W.putObj (N+7) (.loop {a with state:=.busy})).setCell (J (N+1)) (.int .i64 ((i:Int)+1))
def rh(N:Nat)(a:Loop)(i:Nat)(W:World)(k:Nat)(h1:k≠N+7)(h2:k≠N+1):(ow N a i W).heap[k]? =W.heap[k]? :=
 (TI _ _ _ _ (fun e=>h2 e)).trans (World.putObj_heap_other h1)
def FA(N:Nat)(a:Loop)(i:Nat)(W:World):(ow N a i W).heap.size=W.heap.size:=by unfold ow;simp
def ox{B r:Nat}{w W:World}{o:Obj}(h:Below B w W)(c:B<=r):Below B w (W.putObj r o):=by
 obtain⟨h1,h2,h3,a,h5⟩:=h;exact⟨h1,h2,h3,by simpa using a,fun k b=>(World.putObj_heap_other (by omega)).trans (h5 k b)⟩
def DF(N:Nat)(a:Loop)(i:Nat)(W:World):Below N W (ow N a i W):=
 (ox (TH N W) (by omega)).setCell (p:=J (N+1)) (by show N<=N+1;omega) _
def FB(N:Nat)(a:Loop)(i:Nat)(W:World)(n:Int)(h:W.heap[N+1]? =some (.cells #[n] 3 (0,0))):(ow N a i W).heap[N+1]? =some (.cells #[.int .i64 ((i:Int)+1)] 3 (0,0)):=
 gG ((World.putObj_heap_other (by omega)).trans h) 0 (.int .i64 ((i:Int)+1))
def FC(N:Nat)(a b:Loop)(i:Nat)(W:World)(h:W.heap[N+7]? =some (.loop b)):(ow N a i W).heap[N+7]? =some (.loop {a with state:=.busy}):=
 (TI _ _ _ _ (fun e=>by have:N+7=N+1:=e;omega)).trans (World.putObj_heap_same (TK h))
def NR(Rd:Nat->(Nat->Prop)->jL->World->Prop)(N:Nat)(w:World)(t:List UInt8)(b:Loop)(gl i:Nat)(e:Ending)(W':World):Prop:=
 (e=.returned (.bool true)/\yF Rd N w t b gl (i+1) W')\/ ∃a,e=.panicked a/\LA N w t a W'
def IB{Rd:Nat->(Nat->Prop)->jL->World->Prop}{N:Nat}{w:World}{t:List UInt8}{a:Loop}{gl i:Nat}{W:World}{s:List UInt8}{A:Nat}(C:vD (N+8) (N+3) Rd)(P:14<=N)(h:yF Rd N w t a gl i W)(b1:a.state=.ready)(b2:a.pending=none)
 (H:(io [] t)[i]? =some s)(y:ti (iA [] s)=false)(hw:ua W (J A) (iA [] s).length (iA [] s).length (iA [] s) W)(ht:t.length<=20000):
 Calls prog 37 #[U (N+3),Z (J A) (iA [] s).length (iA [] s).length] (ow N a i W) fun e d=>match e with
  | .returned _=>d.heap[N+7]? =some (.loop {a with state:=.busy})/\NR Rd N w t a gl i (.returned (.bool true)) (d.putObj (N+7) (.loop a))
  | .panicked u=>NR Rd N w t a gl i (.panicked u) d
  | .outgrown=>False:=by
 obtain⟨n,hn⟩:=h.line;obtain⟨c,D,r,h1,h2,h3,T⟩:=h.rd;have b3:=h.base.sz;have a9:=FA N a i W;have hi:=(TG.1 H).1;have hL:=qI t [];have a6:=uF t [] s (aL H);have b4:=pH s []
 have a8:=fun v S=>sN s [] v S
 rw[cI]at a6;have K:Rd c D r (ow N a i W):=C.kept c D r W _ h3 (fun k a1 hlt=>rh N a i W k (by omega) (by omega)) (by omega)
 have a7:ua (ow N a i W) (J A) (iA [] s).length (iA [] s).length (iA [] s) (ow N a i W).heap.size:=by
  refine⟨hw.1,hw.2.1,fun h0=>?_⟩;obtain⟨q,off,e1,e2,e3⟩:=hw.2.2 h0;refine⟨q,off,e1,by omega,fun j x hx=>?_⟩;have m:=e3 j x hx
  have a5:q≠N+7:=fun e=>by rw[e,World.cell?,h.loop]at m;cases m
  have a4:q≠N+1:=fun e=>by
   rw[e,VV hn]at m
   obtain h0|h0:=cM (off+j)
   .rw[h0]at m;cases m
   .rw[bo,bz (by simp;omega)]at m;cases m
  rw[<- m];simp only[World.cell?,rh N a i W q a5 a4]
 have p:iA [] s≠[]:=fun e=>by rw[e]at y;cases y
 have z:=h.base.kept (W':=ow N a i W) P (fun k hlt _ h1=>rh N a i W k (by omega) h1) (DF N a i W);refine(C.read c D r _ _ A K a7 p (fun v S=>by have:=a8 v S;simp at this;omega) (by omega) (by omega) (by omega) z.gw (z.tw.mono (by omega))).mono ?_;rintro e d ⟨Q,f,a3⟩
 have E:=fun b Q=>(C.own c D r _ b K Q).1
 have a2:∀k,k<N+8->k≠N+3-> ¬D k:=fun k hlt p M=>by have:=E k M;omega
 have B:∀k,k<N+8->k≠N+3->d.heap[k]? =(ow N a i W).heap[k]? :=fun k hlt p=>f k (by omega) (a2 k hlt p)
 have l:=(B (N+7) (by omega) (by omega)).trans (FC N a a i W h.loop);have g:=(B (N+1) (by omega) (by omega)).trans (FB N a i W n hn);have L:=z.kept (W':=d) P (fun k hlt h1 _=>B k (by omega) h1) (Q.mono (by omega));have hgl:gl<W.heap.size:=TK h.lines;have o:d.heap[gl]? =some (.cells (ji (io [] t)).toArray 9 (0,0)):=(f gl (by omega) T).trans ((rh N a i W gl (by have:=h.hgl;omega) (by have:=h.hgl;omega)).trans h.lines)
 obtain ⟨q,R,rfl,D',X,a0⟩|⟨R,rfl⟩:=a3
 .refine⟨l,VR ⟨rfl,?_⟩⟩
  have F:∀k,k≠N+7->(d.putObj (N+7) (.loop a)).heap[k]? =d.heap[k]? :=fun k y=>World.putObj_heap_other y
  have b0:=h.hgl
  exact⟨L.kept P (fun k hlt _ _=>F k (by omega)) (ox (TH N d) (by omega)),⟨_,(F _ (by omega)).trans g⟩,World.putObj_heap_same (TK l),(F _ (by omega)).trans o,h.hgl,
   c+1,D',q,by omega,h2.trans (LB H y R),C.kept _ D' q d _ a0 (fun k a1 hlt=>F k (by omega)) (by simp),fun M=>by
    obtain h5|h5:=X gl M
    .exact T h5
    .omega⟩
 .exact VS ⟨_,rfl,rfl,L,i+1,h2.trans (LC H y R),g⟩
def DG(N m:Nat)(b:Loop):Prop:=∀(i A n:Nat)(W:World)(R:Ending->World->Prop),W.heap[N+7]? =some (.loop b)->(∃z:Int,W.heap[N+1]? =some (.cells #[z] 3 (0,0)))->
 W.heap[N+4]? =some (.cells #[U (N+3)] 104 (0,0))->i<=100000->
 Calls prog 37 #[U (N+3),Z (J A) n n] (ow N b i W) (fun e c=>match e with
  | .returned _=>c.heap[N+7]? =some (.loop {b with state:=.busy})/\R (.returned (.bool true)) (c.putObj (N+7) (.loop b))
  | .panicked a=>R (.panicked a) c
  | .outgrown=>False)->YieldAt Fence.wide m prog (N+7) #[.int .i64 ((i:Int)+1),Z (J A) n n] W R
def NS{Rd:Nat->(Nat->Prop)->jL->World->Prop}{N m:Nat}{w:World}{t:List UInt8}{b:Loop}(e:vD (N+8) (N+3) Rd)(d:14<=N)(n:t.length<=20000)(j:b.state=.ready)(f:b.pending=none)(l:DG N m b):
 TB t (yF Rd N w t b) (LA N w t) (N+7) m where
 lines:=fun g i W h=>h.lines
 gw:=fun g i W h=>h.base.gw
 go:=fun g i W W' h k=>h.go e d k
 skip:=fun g i W s h a c=>h.skip a c
 yield:=fun g i W s A h a c hw=>by
  have hi:=(TG.1 a).1;have o:=qI t [];exact l i A _ W _ h.loop h.line h.base.ptr (by omega) (IB e d h j f a c hw n)
def FD{Rd:Nat->(Nat->Prop)->jL->World->Prop}{N m:Nat}{w:World}{t:List UInt8}{d:Loop}(l:vD (N+8) (N+3) Rd)(j:14<=N)(x:t.length<=20000)(r:d.state=.ready)(q:d.pending=none)(v:DG N m d)
 {W:World}(A:W.heap.size=N+8)(n:tl N w W)(u:∃z:Int,W.heap[N+1]? =some (.cells #[z] 3 (0,0)))(p:W.heap[N+7]? =some (.loop d))(o:W.cell? (J (N+5))=some (.string (bs t)))(h0:Rd 0 (fun b=>b=N+3) Ae W):
 Calls prog 61 #[.func (.yield (N+7)) #[] #[],U (N+5)] W fun e i=>match e with
  | .returned _=>(∃gl,yF Rd N w t d gl (io [] t).length i)
  | .panicked a=>LA N w t a i
  | .outgrown=>False:=by
 have f:=(TH W W).alloc (aa _) (.cells (ji (io [] t)).toArray 9)
 have c:∀k,k<W.heap.size->(W.alloc (.cells (ji (io [] t)).toArray 9)).heap[k]? =W.heap[k]? :=fun k c=>f.block k c
 obtain⟨z,y⟩:=u;refine(Lv t (yF Rd N w t d) (LA N w t) (N+7) m (N+5) W (NS l j x r q v) o n.gw (by omega) ?_).mono ?_
 .exact⟨n.kept j (fun k hlt _ _=>c k (by omega)) (f.mono (by omega)),⟨z,(c _ (by omega)).trans y⟩,(c _ (by omega)).trans p,TL W _,by omega,
   0,fun b=>b=N+3,Ae,aA _,by rw[dW],l.kept 0 _ Ae W _ h0 (fun k _ hlt=>c k hlt) f.size,by omega⟩
 .rintro e i (⟨rfl,g,s⟩|⟨a,rfl,h⟩)
  .exact⟨g,s⟩
  .exact h
def Dm:List UInt8:=[77,73,82,82,79,82]
def zN(l:List gM)(i:Nat)(y:gM):Bool:=(y.s.e9.toList==Dm)||(y.s.kind==3)||(y.s.kind==4)||decide (i+1=l.length)
def ES(x:gR)(f v s k:iJ)(i:Nat)(y:gM)(w:World)(m:iP (fun b=>b<w.heap.size) w x f v s k)(E:x.l[i]? =some y):
 Calls prog 81 #[jG x f v s k,.int .i64 (i:Int)] w (iZ w (.bool (zN x.l i y))):=by
 obtain⟨sa,n,t⟩:=s
 have N:i<n:=by have:=m.l.1;simp only at this;rw[<- this];exact(TG.1 E).1
 have e:x.l.length=n:=m.l.1;have b0:n<=1000000:=m.sn;obtain⟨b1,off,z,cs,K,hlt,C,⟨a2,r,c2,rfl,hz,P,L,M⟩,Q⟩:=m.l.at N;rw[E]at C;cases C;simp only at K;subst K;have H:=O Q;have q:=O e;clear m E hz P L M Q e;have c:=O (show hU (w.alloc (.cells (iw x f v ⟨some ⟨b1,off,none⟩,n,t⟩ k).toArray 38)) w 38 x f v ⟨some ⟨b1,off,none⟩,n,t⟩ k from TL w _);have a:=O ((TH w w).alloc (aa _) (.cells (iw x f v ⟨some ⟨b1,off,none⟩,n,t⟩ k).toArray 38));unfold jG;go_enter func81,ntmps81;go_upto_region 1 with fail;refine gI (fun p=>hU p w 38 x f v ⟨some ⟨b1,off,none⟩,n,t⟩ k/\Below w w p) ⟨c,a⟩ ?_;clear c a;rintro g ⟨d,h⟩;obtain⟨_,_,_,_,_,_,_,D,_⟩:=d.cells;have a8:=d.lt;have F:=O (Y.new g y.s a2 r c2);have u:=O (gY (o:=.cells (⟨y.s,a2,r,c2⟩:jt) 64) (TH g g));have B:=O (jb H (gE h) hlt);have c:=O d;have a:=O h;clear d h H
 go_upto_region 2 with(first
  |(refine lw B rfl (.tmp 9) rfl rfl ?_)
  |(refine lC y.s a2 r c2 _ rfl rfl (.tmp 5) (.tmp 10) rfl rfl rfl ?_))
 refine gI (fun p=>Y p g y.s a2 r c2/\Below g g p) ⟨F,u⟩ ?_;clear F u D B;rintro w2 ⟨h1,j⟩;obtain⟨k0,k1,k2,k3,k4,k5,k6,k7,k8,k9,R,S,T,W,X,a0,a1,a3,a4,a5,a6,a7⟩:=h1.cells;obtain⟨_,_,_,_,_,_,_,D,_⟩:=(c.go j).cells;have a9:=h1.lt;have A:=O (I a j);clear h1 j c a k1 k2 k3 k4 k5 k6 k7 k8 k9 R S T X a0 a1 a3 a4 a5 a6 a7;cases q1:(y.s.e9.toList==[77,73,82,82,79,82]) <;>cases q2:(y.s.kind==3) <;>cases q3:(y.s.kind==4) <;>cases q4:((i:Int)==(n:Int)-1)
 all_goals
  go_wp2;go_ret;refine⟨?_,A⟩;have hl:=q.out;clear A k0 W D;unfold zN Dm;rw[q1,q2,q3,hl];simp at q4⊢
  try omega
section
attribute [local go_sem] Oper.semAt_some
def ye(w:World)(r:PP)(e:Ending)(w':World):Prop:=∃f v s k,e=.returned (.tuple #[jG r.x f v s k,r.line,r.e])/\iP (fun b=>b<w'.heap.size) w' r.x f v s k/\Below w w w'
def rF{fn:Func}{p q u:Tmp}{tmps:Array Value}{w:World}{b g2 c:Nat}{x:gR}{f v s k:iJ}{n e:Int}(h:fn.results=#[.cell p 38,.cell q 3,.cell u 44])
 (g:tmps.getD p undef=.pointer (J b))(i:tmps.getD q undef=.pointer (J g2))(j:tmps.getD u undef=.pointer (J c))(h1:hU w b 38 x f v s k)
 (h2:w.heap[g2]? =some (.cells #[n] 3 (0,0)))(h3:w.heap[c]? =some (.cells #[e] 44 (0,0))):
 (results fn tmps).run prog w=.ok (.tuple #[jG x f v s k,n,e]) w:=by
 have d:(results fn tmps).run prog w=((asAddr (tmps.getD p undef)).run prog w).andThen fun a m=>((loadVar 38 a).run prog m).andThen fun v o=>((asAddr (tmps.getD q undef)).run prog o).andThen fun a2 r=>((loadVar 3 a2).run prog r).andThen fun v2 t=>((asAddr (tmps.getD u undef)).run prog t).andThen fun a3 y=>((loadVar 44 a3).run prog y).andThen fun l z=>.ok (.tuple #[v,v2,l]) z:=by
  simp only[results,h];simp[bR,Result.andThen]
 rw[d,g,i,j];simp only[asAddr,cT,bU];rw[run_loadVar_row w b 38 38 _ (0,0) _ h1 underlying38 rfl Tryz.infoLens];simp only[bU];have c2:w.cell? (J g2)=some (.int .i64 n):=VV h2 0;have c3:w.cell? (J c)=some (.int .i64 e):=VV h3 0;go_simp;rfl
def FE{b:FuncId}{P:Program}{c:Code}{Q:Exit->Act->World->Prop}{a:Act}{w:World}(F:World->Prop)(d:F w)(h:∀w',F w'->JO b P c Q a w'):JO b P c Q a w:=h w d
def iC{W:World}{o:Obj}{k:Nat}(a:k<W.heap.size):(W.alloc o).heap[k]? =W.heap[k]? :=((TH W W).alloc (aa _) o).block k a
def ku{W:World}{o:Obj}{M:Nat}(a:W.heap.size=M):(W.alloc o).heap[M]? =some o:=by rw[<- a];exact World.alloc_heap_new W o
structure RD (N:Nat) (w W:World):Prop where
 len:hU W N 38 lz ij ij ij ij
 lin:W.heap[N+1]? =some (.cells #[oZ] 3 (0,0))
 err:W.heap[N+2]? =some (.cells #[oZ] 44 (0,0))
 sz:W.heap.size=N+3
 bel:Below N w W
def PU(w:World)(N:Nat)(a:w.heap.size=N):RD N w (((w.alloc (.cells (iw lz ij ij ij ij).toArray 38)).alloc (.cells #[oZ] 3)).alloc (.cells #[oZ] 44)):=by
 have s1:(w.alloc (.cells (iw lz ij ij ij ij).toArray 38)).heap.size=N+1:=by simp[a]
 have s2:((w.alloc (.cells (iw lz ij ij ij ij).toArray 38)).alloc (.cells #[oZ] 3)).heap.size=N+2:=by simp[a]
 exact⟨(iC (by omega)).trans ((iC (by omega)).trans (ku a)),(iC (by omega)).trans (ku s1),ku s2,by simp[a],(((TH N w).alloc (by omega) _).alloc (by omega) _).alloc (by omega) _⟩
structure RE (N:Nat) (w W:World):Prop where
 len:hU W N 38 lz ij ij ij ij
 lin:W.heap[N+1]? =some (.cells #[oZ] 3 (0,0))
 err:W.heap[N+2]? =some (.cells #[oZ] 44 (0,0))
 rdr:nx W (N+3) Ae ij ij ij ij (.map none)
 ptr:W.heap[N+4]? =some (.cells #[U (N+3)] 104 (0,0))
 sz:W.heap.size=N+5
 bel:Below N w W
def PV{w W:World}{N:Nat}(h:RD N w W):RE N w ((W.alloc (.cells (yN Ae ij ij ij ij (.map none)).toArray 107)).alloc (.cells #[U (N+3)] 104)):=by
 have a:=h.sz
 have s1:(W.alloc (.cells (yN Ae ij ij ij ij (.map none)).toArray 107)).heap.size=N+4:=by simp[a]
 refine⟨(iC (by omega)).trans ((iC (by omega)).trans h.len),(iC (by omega)).trans ((iC (by omega)).trans h.lin),(iC (by omega)).trans ((iC (by omega)).trans h.err),
  (iC (by omega)).trans (ku a),ku s1,by simp[a],(h.bel.alloc (by omega) _).alloc (by omega) _⟩
structure PW (N:Nat) (t:List UInt8) (w W:World):Prop where
 len:hU W N 38 lz ij ij ij ij
 lin:W.heap[N+1]? =some (.cells #[oZ] 3 (0,0))
 err:W.heap[N+2]? =some (.cells #[oZ] 44 (0,0))
 rdr:nx W (N+3) Ae ij ij ij ij (.map none)
 ptr:W.heap[N+4]? =some (.cells #[U (N+3)] 104 (0,0))
 txt:W.heap[N+5]? =some (.cells #[.string (bs t)] 9 (0,0))
 sz:W.heap.size=N+6
 bel:Below N w W
def PX{w W:World}{N:Nat}(t:List UInt8)(h:RE N w W):PW N t w (W.alloc (.cells #[.string (bs t)] 9)):=by
 have a:=h.sz;exact⟨(iC (by omega)).trans h.len,(iC (by omega)).trans h.lin,(iC (by omega)).trans h.err,(iC (by omega)).trans h.rdr,(iC (by omega)).trans h.ptr,ku a,by simp[a],h.bel.alloc (by omega) _⟩
def PY{w W:World}{N:Nat}{t:List UInt8}(h:PW N t w W)(g:GW w)(f:TW N w)(e:w.heap.size=N)(a:Loop):
 tl N w ((W.alloc (.deferred (some []))).alloc (.loop a))/\(∃z:Int,((W.alloc (.deferred (some []))).alloc (.loop a)).heap[N+1]? =some (.cells #[z] 3 (0,0)))/\((W.alloc (.deferred (some []))).alloc (.loop a)).heap[N+7]? =some (.loop a)/\
  ((W.alloc (.deferred (some []))).alloc (.loop a)).cell? (J (N+5))=some (.string (bs t))/\nx ((W.alloc (.deferred (some []))).alloc (.loop a)) (N+3) Ae ij ij ij ij (.map none)/\((W.alloc (.deferred (some []))).alloc (.loop a)).heap.size=N+8:=by
 have c:=h.sz
 have s1:(W.alloc (.deferred (some []))).heap.size=N+7:=by simp[c]
 have b:∀k,k<N+6->((W.alloc (.deferred (some []))).alloc (.loop a)).heap[k]? =W.heap[k]? :=fun k b=>(iC (by omega)).trans (iC (by omega))
 have d:Below N w ((W.alloc (.deferred (some []))).alloc (.loop a)):=(h.bel.alloc (by omega) _).alloc (by omega) _
 exact⟨⟨(b _ (by omega)).trans h.len,(b _ (by omega)).trans h.err,(b _ (by omega)).trans h.ptr,(iC (by omega)).trans (ku c),d,g.below (by rw[e];exact d),f.below d,by simp[c]⟩,
  ⟨0,(b _ (by omega)).trans h.lin⟩,ku s1,VV ((b _ (by omega)).trans h.txt) 0,(b _ (by omega)).trans h.rdr,by simp[c]⟩
def FF{Rd:Nat->(Nat->Prop)->jL->World->Prop}{N m:Nat}{w W:World}{t:List UInt8}{j:Array Tmp}{assign body:Code}{k:Operand}{a:Act}{Q:Exit->Act->World->Prop}(B:vD (N+8) (N+3) Rd)
 (h0:∀W,nx W (N+3) Ae ij ij ij ij (.map none)->Rd 0 (fun b=>b=N+3) Ae W)(D:GW w)(p:TW N w)(A:w.heap.size=N)(E:t.length<=20000)(n:PW N t w W)
 (C:a.eval k=.func (.func 61) #[] #[U (N+5)])
 (i:DG N m {state:=.ready,pending:=none,fn:=13,tmps:=a.tmps,params:=j,assign:=assign,body:=body,defers:=N+6})
 (hdone:∀gl g,yF Rd N w t {state:=.ready,pending:=none,fn:=13,tmps:=a.tmps,params:=j,assign:=assign,body:=body,defers:=N+6} gl (io [] t).length g->
   Q .normal {a with defers:={target:=.collected (N+6),args:=#[]}::a.defers} (g.putObj (N+7) (.loop {state:=.exhausted,pending:=none,fn:=13,tmps:=a.tmps,params:=j,assign:=assign,body:=body,defers:=N+6})))
 (hbad:∀c g,LA N w t c g->Q (.panic c) {a with defers:={target:=.collected (N+6),args:=#[]}::a.defers} g):
 JO 13 prog (.rangeFunc k j assign body) Q a W:=by
 obtain⟨r,s,u,x,y,z⟩:=PY n D p A {state:=.ready,pending:=none,fn:=13,tmps:=a.tmps,params:=j,assign:=assign,body:=body,defers:=N+6};have o:=run_enterLoop_outer (P:=prog) (w:=W) 13 a.tmps j assign body;rw[n.sz]at o
 refine Lz (l:=N+7) (w₁':=(W.alloc (.deferred (some []))).alloc (.loop {state:=.ready,pending:=none,fn:=13,tmps:=a.tmps,params:=j,assign:=assign,body:=body,defers:=N+6})) (d:={target:=.fn (.func 61) #[U (N+5)],args:=#[.func (.yield (N+7)) #[] #[]]}) (f:=61) (args:=#[.func (.yield (N+7)) #[] #[],U (N+5)]) o ?_ ?_
  ((FD B (p.glo) E rfl rfl i z r s u x (h0 _ y)).mono ?_)
 .have q:resolve a.eval (rangeCall k (N+7)) 0=Deferred.ofValue (a.eval k) #[.func (.yield (N+7)) #[] #[]]:=by unfold resolve;simp[Act.eval]
  rw[q,C];rfl
 .simp[go_sem]
 .intro e g h
  cases e with
  |returned v=>
   obtain⟨gl,hgl⟩:=h;exact⟨_,run_endLoop hgl.loop (by simp),hdone gl g hgl⟩
  |panicked c=>exact hbad c g h
  |outgrown=>exact h
def NT(t:List UInt8)(w:World):Calls prog 36 #[.string (bs t)] w fun e w'=>e=.returned (.func (.func 61) #[] #[U (w.heap.size)])/\w'=w.alloc (.cells #[.string (bs t)] 9):=by
 go_enter func36,ntmps36;go_wp2;go_ret;exact⟨rfl,rfl⟩
def rG{F:Fence}{n:Nat}{P:Program}{f:FuncId}{args:Array Value}{u:FrameMode}{w:World}{R d:Ending->FrameMode->World->Prop}(h:CallsDIn F n P f args u w R)(i:∀e b w',R e b w'->d e b w'):CallsDIn F n P f args u w d:=
 ⟨h.1,fun c cs g a=>let⟨e,b,w',fr,hR,hs⟩:=h.2 c cs g a;⟨e,b,w',fr,i _ _ _ hR,hs⟩⟩
def pj{F:Fence}{n:Nat}{P:Program}{fn:Func}{tmps a:Array Value}{R:Ending->World->Prop}(h:∀w,(results fn tmps).run P w=(results fn a).run P w):∀(ds:List Deferred)(u:FrameMode)(w:World),LeavesInM F n P fn tmps R ds u w->LeavesInM F n P fn a R ds u w
 |[],u,w,hl=>by
  cases u with
  |run=>exact hl
  |returning=>obtain⟨v,h1,h2⟩:=hl;exact⟨v,(h w).symm.trans h1,h2⟩
  |panicking c=>exact hl
 |d::ds,u,w,hl=>by
  obtain⟨h1,h2⟩:=hl;refine⟨h1,?_⟩
  obtain ⟨r,w',g,i,j⟩|⟨l,k,cap,f,args,g,i,j,m⟩:=h2
  .exact VR ⟨r,w',g,i,pj h ds u w' j⟩
  .refine VS ⟨l,k,cap,f,args,g,i,j,rG m ?_⟩
   intro e o w' b
   cases e with
   |returned v=>exact pj h ds _ w' b
   |panicked chain=>exact pj h ds _ w' b
   |outgrown=>exact b
def As(tmps:Array Value)(d j:Nat)(v:Value)(h:j≠d):(tmps.setIfInBounds d v).getD j undef=tmps.getD j undef:=by
 rw[eD,eD,fD (fu h)]
def yg(tmps:Array Value)(w:World):(results Tryz.f13 tmps).run prog w=((asAddr (tmps.getD 2 undef)).run prog w).andThen fun a c=>((loadVar 38 a).run prog c).andThen fun v d=>((asAddr (tmps.getD 3 undef)).run prog d).andThen fun a2 e=>((loadVar 3 a2).run prog e).andThen fun v2 f=>((asAddr (tmps.getD 4 undef)).run prog f).andThen fun a3 g=>((loadVar 44 a3).run prog g).andThen fun b h=>.ok (.tuple #[v,v2,b]) h:=by
 simp only[results,results13];simp[bR,Result.andThen]
def FG(d:Nat)(a:5<=d)(tmps:Array Value)(v:Value)(w:World):(results Tryz.f13 (tmps.setIfInBounds d v)).run prog w=(results Tryz.f13 tmps).run prog w:=by
 rw[yg,yg,As tmps d 2 v (by omega),As tmps d 3 v (by omega),As tmps d 4 v (by omega)]
def LD{d:Nat}(b:5<=d){R:Ending->World->Prop}{ch:List PanicEntry}{K:Act->World->Prop}{a:Act}{w:World}{v:Value}(h:Exit.then K (bodyPostM Fence.wide 0 prog Tryz.f13 R) (.panic ch) (a.put (some d) v) w):Exit.then K (bodyPostM Fence.wide 0 prog Tryz.f13 R) (.panic ch) a w:=
 pj (FG d b a.tmps v) a.defers _ w h
def ud:∀(l w:List UInt8),(io w l).length=l.count 10+1
 |[],w=>rfl
 |b::l,w=>by
  rw[io,List.count_cons];cases h:(b==10)
  .rw[aj (by simp),aj (by simp),ud l _]
  .rw[aq rfl,aq rfl,aH,ud l []]
def LE(l:List UInt8)(w:World):Calls prog 38 #[.string (bs l),.string {data:=#[10]}] w fun e w'=>e=.returned (.int .i64 ((l.count 10:Nat):Int))/\w=w':=by
 refine(Tryz.strings_Count_one (bs l) 10 w).mono ?_;rintro e w' ⟨rfl,rfl⟩;exact⟨rfl,rfl⟩
def DH(S:Nat->Prop)(w:World):iP S w lz ij ij ij ij:=
 ⟨IRp.nil _ _ _ _ _,IRp.nil _ _ _ _ _,RR.nil _ _ _ _ _ _,RR.nil _ _ _ _ _ _,by decide,by decide,by decide,by decide,fun _=>rfl,fun _=>rfl,by decide⟩
def FH{t:List UInt8}{n:Nat}(a:¬20000<t.length)(h:lR 0 Ae (io [] t)=.error n):nr t=⟨lz,(n:Int),5⟩:=by
 unfold nr;rw[aj a,h];rfl
def Ct{N:Nat}{w W:World}{t:List UInt8}{a:List PanicEntry}{tmps:Array Value}{n:Int}(p:w.heap.size=N)(d:a=[{v:=.iface 103 (.agg #[]),recovered:=false}])(hbs:tl N w W)(hrs:nr t=⟨lz,n,5⟩)
 (hline:W.heap[N+1]? =some (.cells #[n] 3 (0,0)))(h2:tmps.getD 2 undef=.pointer (J N))(h3:tmps.getD 3 undef=.pointer (J (N+1)))(h4:tmps.getD 4 undef=.pointer (J (N+2))):
 LeavesInM Fence.wide 0 prog Tryz.f13 tmps (ye w (nr t)) [{target:=.collected (N+6),args:=#[]},{target:=.fn (.func 35) #[U N,U (N+2)],args:=#[]}] (.panicking a) W:=by
 have b:∀k,k≠N+6->(W.putObj (N+6) (.deferred none)).heap[k]? =W.heap[k]? :=fun k b=>World.putObj_heap_other b
 have c:=ox (o:=.deferred none) hbs.bel (show N<=N+6 by omega);have q:=hbs.sz
 have i:(W.putObj (N+6) (.deferred none)).heap.size=W.heap.size:=by simp
 rw[d,hrs];refine⟨by simp,VR ⟨N+6,_,rfl,run_takeDeferred hbs.dfr,?_⟩⟩;refine⟨by simp,VS ⟨fun h=>(by cases h),.func 35,_,35,#[U N,U (N+2)],rfl,by simp[go_sem],fun _ _=>trivial,?_⟩⟩;refine rG (xp N (N+2) (by omega) [] _ _ ((b N (by omega)).trans hbs.len) rfl ((b (N+2) (by omega)).trans hbs.err)) ?_;rintro e r g ⟨rfl,rfl,h5,j,l,m⟩;have f:g.heap[N+1]? =some (.cells #[n] 3 (0,0)):=(l (N+1) (by omega) (by omega) (by omega)).trans ((b (N+1) (by omega)).trans hline)
 show LeavesIn Fence.wide 0 prog Tryz.f13 tmps _ [] (settle _) g
 simp only[LeavesIn,settle,List.dropWhile_nil];exact⟨_,rF rfl h2 h3 h4 h5 f j,ij,ij,ij,ij,rfl,DH _ _,by rw[p];exact c.trans (m.mono (by omega))⟩
def LF{N:Nat}{w W:World}{t:List UInt8}{a:List PanicEntry}{tmps:Array Value}(e:w.heap.size=N)(f:¬20000<t.length)(c:LA N w t a W)(h2:tmps.getD 2 undef=.pointer (J N))(h3:tmps.getD 3 undef=.pointer (J (N+1)))(d:tmps.getD 4 undef=.pointer (J (N+2))):
 LeavesInM Fence.wide 0 prog Tryz.f13 tmps (ye w (nr t)) [{target:=.collected (N+6),args:=#[]},{target:=.fn (.func 35) #[U N,U (N+2)],args:=#[]}] (.panicking a) W:=by
 obtain⟨n,g,b⟩:=c.no;exact Ct e c.ch c.base (FH f g) b h2 h3 d
def Cu{N:Nat}{w W:World}{q:PP}{tmps:Array Value}{f v s k:iJ}(j:w.heap.size=N)(l:W.heap[N+6]? =some (.deferred (some [])))(m:hU W N 38 q.x f v s k)(c:W.heap[N+1]? =some (.cells #[q.line] 3 (0,0)))
 (g:W.heap[N+2]? =some (.cells #[q.e] 44 (0,0)))(n:iP (fun b=>b<W.heap.size/\b≠N+6) W q.x f v s k)(d:Below N w W)(h2:tmps.getD 2 undef=.pointer (J N))(h3:tmps.getD 3 undef=.pointer (J (N+1)))(i:tmps.getD 4 undef=.pointer (J (N+2))):
 LeavesInM Fence.wide 0 prog Tryz.f13 tmps (ye w q) [{target:=.collected (N+6),args:=#[]},{target:=.fn (.func 35) #[U N,U (N+2)],args:=#[]}] .returning W:=by
 have a:∀k,k≠N+6->(W.putObj (N+6) (.deferred none)).heap[k]? =W.heap[k]? :=fun k a=>World.putObj_heap_other a
 refine⟨by simp,VR ⟨N+6,_,rfl,run_takeDeferred l,?_⟩⟩;refine⟨by simp,VS ⟨fun h=>(by cases h),.func 35,_,35,#[U N,U (N+2)],rfl,by simp[go_sem],fun _ _=>trivial,?_⟩⟩;refine rG (Fx (J N) (J (N+2)) _ _) ?_;rintro e o p ⟨rfl,rfl,rfl⟩
 show LeavesIn Fence.wide 0 prog Tryz.f13 tmps _ [] (settle _) _
 simp only[LeavesIn,settle];exact⟨_,rF rfl h2 h3 i ((a N (by omega)).trans m) ((a (N+1) (by omega)).trans c) ((a (N+2) (by omega)).trans g),f,v,s,k,rfl,n.kept (fun b d=>a b d.2) (fun b d=>by simpa using d.1),by rw[j];exact ox d (by omega)⟩
def FI{N:Nat}{w c d:World}{x:gR}{f v s k:iJ}{n e r:Int}(h:tl N w c)(o:hU d N 38 x f v s k)(j:d=c.setCells N 0 (iw x f v s k))(q:c.heap[N+1]? =some (.cells #[r] 3 (0,0))):
 let a:=(d.setCell (J (N+1)) (.int .i64 n)).setCell (J (N+2)) (.int .i64 e)
 a.heap[N+6]? =some (.deferred (some []))/\hU a N 38 x f v s k/\a.heap[N+1]? =some (.cells #[n] 3 (0,0))/\a.heap[N+2]? =some (.cells #[e] 44 (0,0))/\(∀b,N+8<=b->a.heap[b]? =c.heap[b]?)/\a.heap.size=c.heap.size/\Below N w a:=by
 intro a
 have g:∀b,b≠N->d.heap[b]? =c.heap[b]? :=fun b l=>by rw[j];exact gK N _ 0 c b l
 have i:∀b,b≠N+1->b≠N+2->a.heap[b]? =d.heap[b]? :=fun b h1 h2=>(TI _ _ _ _ (fun e=>h2 e)).trans (TI _ _ _ _ (fun e=>h1 e))
 have m:Below N w d:=by rw[j];exact ig (b:=N) (aa _) _ _ h.bel
 refine⟨(i _ (by omega) (by omega)).trans ((g _ (by omega)).trans h.dfr),(i _ (by omega) (by omega)).trans o,?_,?_,fun b l=>(i b (by omega) (by omega)).trans (g b (by omega)),?_,(m.setCell (p:=J (N+1)) (by show N<=N+1;omega) _).setCell (p:=J (N+2)) (by show N<=N+2;omega) _⟩
 .exact(TI _ _ _ _ (fun e=>by have:N+1=N+2:=e;omega)).trans (gG ((g _ (by omega)).trans q) 0 _)
 .exact gG ((TI _ _ _ _ (fun e=>by have:N+2=N+1:=e;omega)).trans ((g _ (by omega)).trans h.err)) 0 _
 .show((d.setCell _ _).setCell _ _).heap.size=_
  rw[j];simp[im]
def NU{t:List UInt8}{r:jL}(a:¬20000<t.length)(h:lR 0 Ae (io [] t)=lR (io [] t).length r []):nr t=if r.at_≠9 then⟨lz,((io [] t).length:Int),5⟩else if iI r.x=true then⟨r.x,0,0⟩else⟨lz,0,120⟩:=by
 unfold nr;rw[aj a,h,lR];rfl
def tn{ops:Array Oper}{a:List Oper}{b:Oper}{c:Act}{w:World}{Q:Exit->Act->World->Prop}{g:Nat}{r:jL}{f v s k:iJ}{m:Value}(y:Operand)(n:b.op=.load 38 y)(d:b.guard=none)(o:c.eval y=.pointer (J g))(h:nx w g r f v s k m)
 (l:wpList prog ops Q a (c.put b.dst (jG r.x f v s k)) w):wpList prog ops Q (b::a) c w:=
 wpList_load_mid d 38 y n g 0 o (iw r.x f v s k) _ (fun j u e=>by
  have i:j<9:=(TG.1 e).1
  rw[aV,VV h j,bo,yN,aF i];exact e) underlying38 rfl Tryz.infoLens l
def LH{Rd:Nat->(Nat->Prop)->jL->World->Prop}(t:List UInt8)(w:World)(hS:vD (w+8) (w+3) Rd)
 (h0:∀W,nx W (w+3) Ae ij ij ij ij (.map none)->Rd 0 (fun b=>b=w.heap.size+3) Ae W)(hg:GW w)(hT:TW w w)(hP:jY w w)(ht:t.length<=100000):
 Calls prog 13 #[.string (bs t)] w (ye w (nr t)):=by
 by_cases y:20000<t.length
 .have a3:(20000:Int) <(t.length:Int):=by omega
  have g:nr t=⟨lz,0,3⟩:=by unfold nr;rw[aq y];rfl
  have e4:=O g
  have s1:(w.alloc (.cells (iw lz ij ij ij ij).toArray 38)).heap.size=w.heap.size+1:=by simp
  have s2:((w.alloc (.cells (iw lz ij ij ij ij).toArray 38)).alloc (.cells #[oZ] 3)).heap.size=w.heap.size+1+1:=by simp
  have k1:hU (((w.alloc (.cells (iw lz ij ij ij ij).toArray 38)).alloc (.cells #[oZ] 3)).alloc (.cells #[.int .i64 3] 44)) w 38 lz ij ij ij ij:=(iC (by omega)).trans ((iC (by omega)).trans (ku rfl));have k2:(((w.alloc (.cells (iw lz ij ij ij ij).toArray 38)).alloc (.cells #[oZ] 3)).alloc (.cells #[.int .i64 3] 44)).heap[w.heap.size+1]? =some (.cells #[oZ] 3 (0,0)):=(iC (by omega)).trans (ku s1);have k3:(((w.alloc (.cells (iw lz ij ij ij ij).toArray 38)).alloc (.cells #[oZ] 3)).alloc (.cells #[.int .i64 3] 44)).heap[w.heap.size+1+1]? =some (.cells #[.int .i64 3] 44 (0,0)):=ku s2;have K4:=O (show Below w w (((w.alloc (.cells (iw lz ij ij ij ij).toArray 38)).alloc (.cells #[oZ] 3)).alloc (.cells #[.int .i64 3] 44))from(((TH _ w).alloc (aa _) _).alloc (by omega) _).alloc (by omega) _);have K1:=O k1;have K2:=O k2;have K3:=O k3;clear hS h0 hg hT hP g y s1 s2 k1 k2 k3;go_enter func13,ntmps13;go_wp2_with fail;refine ar (rF rfl rfl rfl rfl K1 K2 K3) rfl ?_;rw[e4];exact⟨ij,ij,ij,ij,rfl,DH _ _,K4⟩
 .have a3:¬(20000:Int) <(t.length:Int):=by omega
  have HS:=O hS;have H0:=O h0;have Hg:=O hg;have HT:=O hT;have HP:=O hP;clear hS h0 hg hT hP;refine DE func13 rfl ?_;simp only[ntmps13,List.size_toArray,aH,cI,Nat.reduceAdd,Nat.reduceSub,Array.replicate_succ,Array.replicate_zero,List.push_toArray,List.append_toArray,bD,bF];obtain⟨N,K⟩:∃N,w.heap.size=N:=⟨_,rfl⟩;rw[K]at HS H0 HT HP;have hN:=HT.glo;refine oW (fun K0 f8=>?_);go_wp2_with fail;refine FE (RD N w) (PU w N K) (fun w1 h1=>?_)
  try rw[K]
  have b3:=O h1;clear h1;refine oW (fun K1 f9=>?_);go_wp2_with fail;refine oW (fun K2 g0=>?_);go_wp2_with fail;refine oW (fun K3 g1=>?_);have c4:=b3.sz;go_wp2_with fail;refine FE (RE N w) (PV b3) (fun w2 h2=>?_);have b4:=O h2;clear h2 b3 c4;refine JP ?_;refine oW (fun K5 g2=>?_);have a7:=b4.sz;go_wp2_with fail;refine(NT t w2).mono ?_;rintro e w3 ⟨rfl,rfl⟩;go_wp2_with fail
  try rw[a7]
  refine FE (PW N t w) (PX t b4) (fun w3 h3=>?_);have c8:=O h3;clear h3 b4 a7;have f5:=c8.sz;refine Lw ?_;refine FF (m:=5) HS H0 Hg HT K (by omega) c8 rfl ?round ?done ?bad
  case round=>
   intro i A n W R a6 e7 e2 hi F;obtain⟨z,hz⟩:=e7;refine⟨_,_,_,_,run_yield a6 rfl,?_⟩;refine DD func13 trivial ?_;simp only[List.zip_toArray,List.zip_cons_cons,List.zip_nil_left,List.zip_nil_right,List.foldl_toArray,List.foldl_cons,List.foldl_nil,bK,aW,aZ]
   gi_wp2
   refine⟨_,run_beginRound a6 rfl,?_⟩;have g6:=TK a6
   have b7:∀o,(W.putObj (N+7) o).heap[N+1]? =some (.cells #[z] 3 (0,0)):=fun o=>(World.putObj_heap_other (by omega)).trans hz
   have c0:=fun o=>VV (b7 o) 0
   have f0:=fun o=>gD (b7 o) 0
   have e1:∀o,((W.putObj (N+7) o).setCell (J (N+1)) (.int .i64 ((i:Int)+1))).heap[N+3+1]? =some (.cells #[U (N+3)] 104 (0,0)):=
    fun o=>(TI _ _ _ _ (fun e=>by have:N+3+1=N+1:=e;omega)).trans ((World.putObj_heap_other (by omega)).trans e2)
   have c1:=fun o=>VV (e1 o) 0
   unfold ow at F;have T:=O F;clear F a6 b7 e1 hz e2
   gi_wp2
   refine⟨trivial,CallsIn.mono (CallsIn.inRound (N+7) (callsIn_wide.2 T)) ?_⟩;intro e W2 h;clear T c0 f0 c1
   cases e with
   |returned v=>
    obtain⟨e5:HQ _,H2:HQ _⟩:=h
    gi_wp2
    refine⟨_,_,run_endRound none e5,?_⟩;exact H2
   |panicked a9=>
    have H:=O h;clear h
    gi_wp2
    exact⟨rfl,H⟩
   |outgrown=>exact h.elim
  case done=>
   intro gl W3 hi;obtain⟨c,D,r,h1,h2,h3,h4⟩:=hi.rd;rw[List.drop_of_length_le (aa _)]at h2;obtain⟨f,v,s,k,m,h5,h6⟩:=HS.lens c D r W3 h3;obtain⟨z,hz⟩:=hi.line
   show JO 13 _ _ _ _ _
   have g7:=hi.base.sz
   have hk:∀k,k≠N+7-> ∀o,(W3.putObj (N+7) o).heap[k]? =W3.heap[k]? :=fun k hk o=>World.putObj_heap_other hk
   refine FE (fun W=>(∀k,k≠N+7->W.heap[k]? =W3.heap[k]?)/\W.heap.size=W3.heap.size/\Below N W3 W) ⟨fun k h=>hk k h _,by simp,ox (TH N W3) (by omega)⟩ ?_;rintro S ⟨q1,q2,q3⟩;have d3:=hi.base.kept (W':=S) hN (fun k hlt _ _=>q1 k (by omega)) q3;have a8:=(q1 (N+1) (by omega)).trans hz;have d2:iP (fun b=>N+8<=b/\b<S.heap.size) S r.x f v s k:=h6.kept (fun b j=>q1 b (by have:=j.1;omega)) (fun b j=>⟨j.1,by rw[q2];exact j.2⟩);have c7:=O d2;have c6:=O (show nx S (N+3) r f v s k m from(q1 (N+3) (by omega)).trans h5);have d0:=O d3;have H2:=O h2;have d1:=O a8;have c3:=VV a8 0;have f3:=gD a8 0;clear hk q1 q3 d3 h2 a8 h1 h3 h4 h5 hz hi h6 d2;refine oW (fun K9 g3=>?_);go_wp2_with fail;refine(LE t S).mono ?_;rintro e w5 ⟨rfl,rfl⟩;have e6:=ud t []
   have g4:t.count 10<=20000:=by have:=List.count_le_length (a:=10) (l:=t);omega
   generalize hC:t.count 10=C at*;go_wp2_with fail;refine FE (fun W=>tl N w W/\W.heap[N+1]? =some (.cells #[.int .i64 ((C:Int)+1)] 3 (0,0))/\nx W (N+3) r f v s k m/\(∀b,b≠N+1->W.heap[b]? =S.heap[b]?)/\S.heap.size=W.heap.size) ?_ ?_
   .have hk:∀b,b≠N+1->(S.setCell (J (N+1)) (.int .i64 ((C:Int)+1))).heap[b]? =S.heap[b]? :=fun b j=>TI _ _ _ _ (fun e=>j e)
    exact⟨d0.kept hN (fun b _ _ h=>hk b h) ((TH N S).setCell (p:=J (N+1)) (by show N<=N+1;omega) _),gG d1 0 _,(hk _ (by omega)).trans c6,hk,by simp⟩
   rintro P ⟨G1:HQ _,G2:HQ _,G3:HQ _,G4:HQ _,g5⟩;have c5:=VV G1.ptr 0;have c9:P.cell? ⟨N+3,9,none⟩=some (.int .i64 r.at_):=VV G3 9;obtain⟨oa,on,oc,o1,O2:HQ _⟩:=G1.tw.ord
   have e9:on=10:=by rw[<- O2.1];rfl
   subst e9;clear c3 f3 d0 c6 d1;refine oW (fun f7 f4=>?_);have b5:Below P P P.drew:=⟨rfl,rfl,rfl,aa _,fun _ _=>rfl⟩;have d9:=oV c9;have e0:=oV c5;have d8:=oV o1;refine gS 8 [(0,true),(1,true),(2,true),(3,true),(4,true),(5,true),(6,true),(7,true)] (by kernel_rfl) (by kernel_rfl) ?_
   iterate 8
    refine gU (v:=?_) ?_ ?_ rfl (fun _ _ _ h=>LD (by decide) h);rotate_left
    .intro x hx
     have b6:=b5.trans (hx.mono (by simp));have z1:=(b6.cell (p:=J (N+4)) e0).trans c5;have z2:=(b6.cell (p:=⟨N+3,9,none⟩) d9).trans c9;have z3:=(b6.cell (p:=J 1) d8).trans o1;go_simp;with_reducible rfl
    try simp only[V]
   refine iu rfl ?_;have d4:tl N w P.drew:=G1.kept hN (fun b _ _ _=>rfl) (b5.mono (by have:=G1.sz;omega));have d5:P.drew.heap[N+1]? =some (.cells #[.int .i64 ((C:Int)+1)] 3 (0,0)):=G2.out;have d6:nx P.drew (N+3) r f v s k m:=G3.out;have d7:iP (fun b=>N+8<=b/\b<P.drew.heap.size) P.drew r.x f v s k:=c7.kept (fun b j=>G4 b (by have:=j.1;omega)) (fun b j=>⟨j.1,by show b<P.heap.size;rw[<- g5];exact j.2⟩);have u:=O (NU y H2);have M:=O d4;have b0:=O d5;have b1:=O d6;have b2:=O d7;clear d4 d5 d6 d7 d9 e0 d8 G1 G2 G3 G4 O2 c7 H2 c5 c9 o1 b5 g5;generalize P.drew=W6 at*;by_cases h9:r.at_=9
   .have a4:(r.at_==9)=true:=dz.2 h9
    have g:=u.out;rw[aj (by simp[h9])]at g;clear h9 u;have u:=O g;clear g;go_wp2_with fail;rw[a4];refine(kW W6).mono ?_;rintro e w7 ⟨rfl,rfl⟩;go_wp2_with fail;clear a4;refine Cs ?_;have c5:=VV M.ptr 0
    go_wp2_with(refine tn (.tmp 38) rfl rfl rfl b1 ?_)
    refine(zw r.x f v s k W6 (b2.kept (fun _ _=>rfl) (fun b j=>j.2)) ((HP.below M.bel).mono (by have:=M.sz;omega))).mono ?_;rintro e w7 ⟨rfl,Q⟩;have f6:=M.sz;have a2:tl N w w7:=M.kept hN (fun b hlt _ _=>Q.block b (by omega)) (Q.mono (by omega));have a5:=(Q.block (N+1) (by omega)).trans b0;have b8:=O (show nx w7 (N+3) r f v s k m from(Q.block (N+3) (by omega)).trans b1);have b9:=O (show iP (fun b=>N+8<=b/\b<w7.heap.size) w7 r.x f v s k from b2.kept (fun b j=>Q.block b j.2) (fun b j=>⟨j.1,ab j.2 Q.size⟩));clear c5;have E:=O a2;have a0:=O a5;have c5:=VV a2.ptr 0;clear a2 a5 Q M b0 b1 b2
    have X:∀(q:PP)(f v s k:iJ)(B:World),hU B N 38 q.x f v s k->B=w7.setCells N 0 (iw q.x f v s k)->(B.heap[N+1]? =some (.cells #[.int .i64 ((C:Int)+1)] 3 (0,0))/\B.heap[N+2]? =some (.cells #[oZ] 44 (0,0))):=fun q f v s k B _ e8=>by
     rw[e8];exact⟨(gK N _ 0 w7 (N+1) (by omega)).trans a0,(gK N _ 0 w7 (N+2) (by omega)).trans E.err⟩
    have d:=O X;clear X;by_cases hv:iI r.x=true
    .have g:=u.out
     rw[aq hv]at g;rw[hv];have a1:=O g;clear g u hv;unfold err
     go_wp2_with(first
      |(refine tn (.tmp 47) rfl rfl rfl b8 ?_)
      |(refine ja r.x f v s k E.len rfl rfl (.tmp 2) (.tmp 48) rfl rfl rfl ?_;intro B (L:HQ _) (E8:HQ _);have c1:=VV (d ⟨r.x,0,0⟩ f v s k B L E8).1 0;have f1:=gD (d ⟨r.x,0,0⟩ f v s k B L E8).1 0;have c2:=VV (d ⟨r.x,0,0⟩ f v s k B L E8).2 0;have f2:=gD (d ⟨r.x,0,0⟩ f v s k B L E8).2 0))
     obtain⟨k1,k2,k3,k4,k5,k6,k7⟩:=FI (n:=0) (e:=0) E L E8 a0;rw[a1];exact Cu (q:=⟨r.x,0,0⟩) K k1 k2 k3 k4 (b9.kept (fun b j=>k5 b j.1) (fun b j=>⟨by rw[k6];exact j.2,by have:=j.1;omega⟩)) k7 rfl rfl rfl
    .have g:=u.out
     rw[aj hv]at g
     have e3:iI r.x=false:=by simpa using hv
     rw[e3];have a1:=O g;clear g u hv e3;unfold err
     go_wp2_with(refine ja lz ij ij ij ij E.len rfl rfl (.tmp 2) (.tmp 43) rfl rfl rfl ?_;intro B (L:HQ _) (E8:HQ _);have c1:=VV (d ⟨lz,0,0⟩ ij ij ij ij B L E8).1 0;have f1:=gD (d ⟨lz,0,0⟩ ij ij ij ij B L E8).1 0;have c2:=VV (d ⟨lz,0,0⟩ ij ij ij ij B L E8).2 0;have f2:=gD (d ⟨lz,0,0⟩ ij ij ij ij B L E8).2 0)
     obtain⟨k1,k2,k3,k4,k5,k6,k7⟩:=FI (n:=0) (e:=120) E L E8 a0;rw[a1];exact Cu (q:=⟨lz,0,120⟩) K k1 k2 k3 k4 (DH _ _) k7 rfl rfl rfl
   .have a4:(r.at_==9)=false:=ak.2 h9
    have g:=u.out;rw[aq h9,e6]at g;clear u;have u:=O g;clear g h9;go_wp2_with fail;rw[a4];refine(lm W6).mono ?_;rintro e w7 ⟨rfl,rfl⟩;unfold iX;go_wp2_with fail;exact Ct K rfl M u b0 rfl rfl rfl
  case bad=>
   intro a9 W3 j;exact LF K y j rfl rfl rfl
end
def iq{T e:TypeId}{B b:Nat}{xs:List Value}{w w':World}(h:Lib.IsBuilder T e B b xs w)(a:Below w w w'):Lib.IsBuilder T e B b xs w':=by
 have one:∀{p:Value},Lib.BuilderAt T e B b p xs w->Lib.BuilderAt T e B b p xs w':=by
  rintro p ⟨h1,v,h2,h3,c⟩;exact⟨h1,v,(a.block b (TK h2)).trans h2,kD h3 a,c⟩
 exact h.imp one one
def LI(ws:List (List UInt8))(g off c:Nat)(w:World)(h:∀i x,ws[i]? =some x->w.cell? ⟨g,off+i,none⟩=some (.string (bs x)))(k:g<w.heap.size)(l:ws.length<=c)(n:ws.length<=1000000)(m:(nN ws).length<=1000000):
 Calls prog 40 #[Z (some ⟨g,off,none⟩) ws.length c,.string {data:=#[32]}] w (iZ w (.string (bs (nN ws)))):=by
 have f:(ws.map bs).map (fun b=>b.data.toList)=ws:=by rw[dD];exact fY (fun x=>rfl) ws
 have a:∀(j:Nat) x,(ws.map bs)[j]? =some x->w.cell? ⟨g,off+j,none⟩=some (.string x):=fun j x d=>by
  rw[aR]at d
  cases hw:ws[j]? with
  |none=>rw[hw]at d;cases d
  |some y=>rw[hw]at d;cases d;exact h j y hw
 have key:=Tryz.strings_Join g off c (ws.map bs) {data:=#[32]} w a k (by rw[aU];omega) (by rw[aU];omega) (by rw[f,zZ];omega);rw[aU,f,zZ]at key
 exact key.mono fun e w' h=>h
def Cv(ws:List (List UInt8))(g off c B b:Nat)(l:List UInt8)(w:World)(h:∀i x,ws[i]? =some x->w.cell? ⟨g,off+i,none⟩=some (.string (bs x)))(D:g<w.heap.size)(C:ws.length<=c)(E:ws.length<=1000000)(q:l.length+(iF ws).length<=1000000)
 (o:Lib.IsBuilder 87 5 B b (Lib.byteCells l) w)(A:B<=w.heap.size):
 Calls prog 27 #[U b,Z (some ⟨g,off,none⟩) ws.length c] w fun e w'=>e=.returned (.tuple #[])/\Lib.IsBuilder 87 5 B b (Lib.byteCells (l++iF ws)) w'/\Below B w w'/\kY b w w':=by
 have m:(iF ws).length=(nN ws).length+1:=by unfold iF;simp
 have p:Below w w w.drew:=⟨rfl,rfl,rfl,aa _,fun _ _=>rfl⟩;go_enter func27,ntmps27;refine gS 6 [(0,true),(1,true),(2,true),(3,true),(4,false),(5,true)] (by kernel_rfl) (by kernel_rfl) ?_
 iterate 4
  refine gU (v:=?_) ?_ ?_;rotate_left
  .intro x n
   go_simp;with_reducible rfl
  try simp only[V]
 refine gP (fun z k=>?_);go_simp;refine(LI ws g off c w.drew (fun i x n=>h i x n) D C E (by omega)).mono ?_;rintro e s ⟨rfl,d⟩;refine k _ _ d ?_;clear k z;(try simp only[V]);have a:Below w w s:=p.trans d;have t:bs (nN ws)++({data:=#[10]}:ByteArray)=bs (iF ws):=oQ _ [10]
 have K:(nN ws).length<=1000000:=by omega
 have j:=iq o a;have H:=a.size;have y:=O q;have F:=O m;clear q m h o;generalize hJ:nN ws=Jq0 at*;generalize hS:iF ws=S at*;clear hJ hS
 have r:¬9223372036854775807<Jq0.length+1:=by omega
 refine gU (v:=?_) ?_ ?_;rotate_left
 .intro x n
  go_simp
  try rw[aj r]
  with_reducible rfl
 (try simp only[V]);refine iu rfl ?_;go_wp2_with fail;refine(Iz B b l S s j y (by omega)).mono ?_;rintro e L ⟨rfl,u:HQ _,H4:HQ _,H5:HQ _⟩;have f:=O a;clear a d j;go_wp2;go_end0;exact⟨rfl,u,(f.mono A).trans H4,(kY.below f).trans H5⟩
def Fz(B:Nat)(D:Nat->Prop)(W:World):Nat->Prop:=fun b=>B<=b/\b<W.heap.size/\ ¬D b
structure sT (B:Nat) (D:Nat->Prop) (W:World) (T:TypeId) (k:Nat) (p:iJ) (zs:List Int):Prop where
 row:W.ownsRow B T k p.v p.n (zs.map (Value.int .i64))
 inD:∀b,p.v.ownBlock=some b->D b
 pos:p.n=0->p.a=none
def SG(B:Nat)(D:Nat->Prop)(W:World)(k:Nat)(p:iJ)(zs:List Int):Prop:=IRp (Fz B D W) W k p.a p.n p.c zs/\(p.a=none->p.c=0)
def gT{W:World}{B k n:Nat}{T:TypeId}{v:Value}{xs:List Value}(h:W.ownsRow B T k v n xs){b:Nat}(a:v.ownBlock=some b):B<=b/\b<W.heap.size:=h.lt b a
def me{W W':World}{B k n:Nat}{T:TypeId}{v:Value}{xs:List Value}(h:W.ownsRow B T k v n xs)(c:∀b,v.ownBlock=some b->W'.heap[b]? =W.heap[b]?):W'.ownsRow B T k v n xs:=by
 obtain⟨l,r⟩:=h;refine⟨l,r.imp id ?_⟩;rintro⟨g,cap,a,e,d,f,i⟩;exact⟨g,cap,a,e,d,(c g (by rw[e];rfl)).trans f,i⟩
def NV{W:World}{B k n:Nat}{T:TypeId}{a:Option Addr}{m c:Nat}{zs:List Int}(h:W.ownsRow B T k (.slice a m c) n (zs.map (Value.int .i64)))(S:Nat->Prop)(l:∀b,(Value.slice a m c).ownBlock=some b->S b):m=n/\IRp S W k a m c zs/\(a=none->c=0):=by
 have i:=h.1;rw[aU]at i
 rcases(mz h).2 with⟨e,h0⟩|⟨g,cap,e,o,f,d⟩
 .cases e
  subst h0;exact⟨rfl,⟨by rw[i],aa _,fun h=>absurd h (by omega)⟩,fun _=>rfl⟩
 .cases e
  refine⟨rfl,⟨i,f,fun _=>⟨g,0,rfl,l g rfl,fun j p=>?_⟩⟩,fun e=>by cases e⟩;rw[aV,d.cell (j:=j) (by rw[aU];omega)];simp[ah,ae (show j<zs.length by omega)]
def sT.irp{B:Nat}{D:Nat->Prop}{W:World}{T:TypeId}{k:Nat}{p:iJ}{zs:List Int}(h:sT B D W T k p zs)(S:Nat->Prop)(d:∀b,p.v.ownBlock=some b->S b):IRp S W k p.a p.n p.c zs/\(p.a=none->p.c=0):=(NV h.row S d).2
def sT.nil(B:Nat)(D:Nat->Prop)(W:World)(T:TypeId)(k:Nat):sT B D W T k ij []:=⟨World.ownsRow_nil _ _ _ _,(fun b e=>by cases e),fun _=>rfl⟩
def sT.keep{B:Nat}{D D':Nat->Prop}{W W':World}{T:TypeId}{k:Nat}{p:iJ}{zs:List Int}(h:sT B D W T k p zs)(c:∀b,p.v.ownBlock=some b->W'.heap[b]? =W.heap[b]?)(a:∀b,p.v.ownBlock=some b->D' b):sT B D' W' T k p zs:=
 ⟨me h.row c,a,h.pos⟩
def SG.move{B:Nat}{D D':Nat->Prop}{W W':World}{k:Nat}{p:iJ}{zs:List Int}(h:SG B D W k p zs)(a:gN (Fz B D W) W W')(c:∀b,Fz B D W b->Fz B D' W' b):SG B D' W' k p zs:=
 ⟨h.1.kept a c,h.2⟩
def sT.freeze{B:Nat}{D D':Nat->Prop}{W W':World}{T:TypeId}{k:Nat}{p:iJ}{zs:List Int}(h:sT B D W T k p zs)(c:∀b,p.v.ownBlock=some b->W'.heap[b]? =W.heap[b]? /\Fz B D' W' b):SG B D' W' k p zs:=
 sT.irp (h.keep (D':=D) (fun b a=>(c b a).1) h.inD) _ (fun b a=>(c b a).2)
def lS(i at_:Int)(B:Nat)(D:Nat->Prop)(W:World)(T:TypeId)(k c:Nat)(p:iJ)(zs:List Int):Prop:=
 p.n<=c/\((at_<i/\p=ij/\zs=[])\/(at_=i/\sT B D W T k p zs)\/(i<at_/\SG B D W k p zs))
def lS.keep{i at_:Int}{B:Nat}{D:Nat->Prop}{W W':World}{T:TypeId}{k c:Nat}{p:iJ}{zs:List Int}(h:lS i at_ B D W T k c p zs)(d:∀b,B<=b->b<W.heap.size->W'.heap[b]? =W.heap[b]?)(e:W.heap.size<=W'.heap.size):lS i at_ B D W' T k c p zs:=by
 refine⟨h.1,h.2.imp id (Or.imp (fQ id fun h=>?_) (fQ id fun h=>?_))⟩
 .exact h.keep (fun b a=>d b (gT h.row a).1 (gT h.row a).2) h.inD
 .exact h.move (fun b a=>d b a.1 a.2.1) (fun b a=>⟨a.1,ab a.2.1 e,a.2.2⟩)
def lS.own{i at_:Int}{B:Nat}{D:Nat->Prop}{W:World}{T:TypeId}{k c:Nat}{p:iJ}{zs:List Int}(h:lS i at_ B D W T k c p zs)(hat:at_<=i):sT B D W T k p zs:=by
 obtain ⟨_,rfl,rfl⟩|⟨_,h⟩|⟨h,_⟩:=h.2
 .exact sT.nil _ _ _ _ _
 .exact h
 .omega
def lS.close{i at_ at':Int}{B:Nat}{D D':Nat->Prop}{W W':World}{T:TypeId}{k c c':Nat}{p:iJ}{zs:List Int}(h:lS i at_ B D W T k c p zs)(hat:i<at')(a:c<=c')
 (d:gN (Fz B D W) W W')(g:∀b,Fz B D W b->Fz B D' W' b)(f:at_=i-> ∀b,p.v.ownBlock=some b->W'.heap[b]? =W.heap[b]? /\Fz B D' W' b):lS i at' B D' W' T k c' p zs:=by
 refine⟨af h.1 a,VS (VS ⟨hat,?_⟩)⟩
 obtain ⟨_,rfl,rfl⟩|⟨e,h⟩|⟨_,h⟩:=h.2
 .exact⟨IRp.nil _ _ _ _ _,fun _=>rfl⟩
 .exact h.freeze (f e)
 .exact h.move d g
def lS.wait{i at_ at':Int}{B:Nat}{D D':Nat->Prop}{W W':World}{T:TypeId}{k c c':Nat}{p:iJ}{zs:List Int}(h:lS i at_ B D W T k c p zs)(hat:at_<i)(a:at'<i)(b:c<=c'):lS i at' B D' W' T k c' p zs:=by
 refine⟨af h.1 b,VR ⟨a,?_⟩⟩
 obtain ⟨_,h⟩|⟨e,_⟩|⟨e,_⟩:=h.2
 .exact h
 .omega
 .omega
def lS.irp{i at_:Int}{B:Nat}{D:Nat->Prop}{W:World}{T:TypeId}{k c:Nat}{p:iJ}{zs:List Int}(h:lS i at_ B D W T k c p zs):IRp (fun b=>B<=b/\b<W.heap.size) W k p.a p.n p.c zs/\(p.a=none->p.c=0):=by
 obtain ⟨_,rfl,rfl⟩|⟨e,h⟩|⟨_,h⟩:=h.2
 .exact⟨IRp.nil _ _ _ _ _,fun _=>rfl⟩
 .exact h.irp _ (fun b d=>gT h.row d)
 .exact⟨h.1.kept (gN.refl _ _) (fun b d=>⟨d.1,d.2.1⟩),h.2⟩
structure my (B:Nat) (D:Nat->Prop) (W:World) (c:Nat) (p:iJ) (m:Value) (l:List gM) (seen:List (List UInt8)) (l0:List gM) (y:gM) (css:List (List Value)) (q:iJ) (bb cap bm:Nat):Prop where
 el:l=l0++[y]
 ep:p=⟨some ⟨bb,0,none⟩,l0.length+1,cap⟩
 ecss:css.length=l0.length
 k:∀cs∈css,cs.length=22
 row:W.ownsRow B 64 22 (.slice (J bb) (l0.length+1) cap) (l0.length+1) (css.flatten++gX y.s q.a q.n q.c)
 t9:sT B D W 70 3 q y.zs
 qn:q.n<=c
 rep:∀(i:Nat)(x:gM)(cs:List Value),l0[i]? =some x->css[i]? =some cs->jE (Fz B D W) W x cs
 dbb:D bb
 e9:y.s.e9.size<=1000000
 em:m=.map (some bm)
 map:oC W bm (seen.map bs)
 dbm:D bm
 bmB:B<=bm
def oC.lt{W:World}{b:Nat}{ks:List ByteArray}(h:oC W b ks):b<W.heap.size:=by
 obtain⟨c,a,h1,_⟩:=h;exact TK h1
def my.bbB{B:Nat}{D:Nat->Prop}{W:World}{c:Nat}{p:iJ}{m:Value}{l:List gM}{seen:List (List UInt8)}{l0:List gM}{y:gM}{css:List (List Value)}{q:iJ}{a cap b:Nat}(h:my B D W c p m l seen l0 y css q a cap b):B<=a/\a<W.heap.size:=gT h.row rfl
def my.keep{B:Nat}{D:Nat->Prop}{W W':World}{c:Nat}{p:iJ}{m:Value}{l:List gM}{seen:List (List UInt8)}{l0:List gM}{y:gM}{css:List (List Value)}{q:iJ}{f cap e:Nat}(h:my B D W c p m l seen l0 y css q f cap e)(d:∀b,B<=b->b<W.heap.size->W'.heap[b]? =W.heap[b]?)(g:W.heap.size<=W'.heap.size):my B D W' c p m l seen l0 y css q f cap e:=
 ⟨h.el,h.ep,h.ecss,h.k,me h.row (fun b a=>d b (gT h.row a).1 (gT h.row a).2),h.t9.keep (fun b a=>d b (gT h.t9.row a).1 (gT h.t9.row a).2) h.t9.inD,h.qn,
   fun i x cs h1 h2=>iD.kept (h.rep i x cs h1 h2) (fun b a=>d b a.1 a.2.1) (fun b a=>⟨a.1,ab a.2.1 g,a.2.2⟩),h.dbb,h.e9,h.em,h.map.block (d e h.bmB h.map.lt),h.dbm,h.bmB⟩
def NW{W:World}{B k n:Nat}{T:TypeId}{α:Type}{R:pB α}(ok:kR k R){a cap:Nat}{css:List (List Value)}{l:List α}(h:W.ownsRow B T k (.slice (J a) n cap) n css.flatten)(r:l.length=n)(f:∀cs∈css,cs.length=k)(w:css.length=l.length){S:Nat->Prop}(d:S a)
 (s:∀(i:Nat)(x:α)(cs:List Value),l[i]? =some x->css[i]? =some cs->R S W x cs):RR R k S W (J a) n cap l:=by
 obtain ⟨e,_⟩|⟨g,p,u,e,y,z,t,A,C,D⟩:=h.2
 .cases e
 .cases e
  refine⟨r,t,fun h0=>⟨a,0,rfl,d,fun i x o=>?_⟩⟩;have hi:=(TG.1 o).1;have c:css[i]? =some css[i]:=ae (by omega);refine⟨css[i],s i x _ o c,fun j v m=>?_⟩
  have q:j<k:=by
   have:=(TG.1 m).1;rw[f css[i] (cW _)]at this;exact this
  have b:=h.cells (g:=a) rfl (i*k+j) v (by rw[mC css i _ j f c q];exact m);rw[Addr.add_mid,<- cN]at b;exact b
def my.last{B:Nat}{D:Nat->Prop}{W:World}{c:Nat}{p:iJ}{m:Value}{l:List gM}{seen:List (List UInt8)}{l0:List gM}{y:gM}{css:List (List Value)}{q:iJ}{d cap e:Nat}(h:my B D W c p m l seen l0 y css q d cap e){S:Nat->Prop}(f:∀b,q.v.ownBlock=some b->S b)(g:c<=1000000):jE S W y (gX y.s q.a q.n q.c):=by
 obtain⟨h1,h2⟩:=h.t9.irp S f;exact⟨q.a,q.n,q.c,rfl,h1,by have:=h.qn;omega,h2,by have:=h.e9;omega⟩
def my.rr{B:Nat}{D:Nat->Prop}{W:World}{c:Nat}{p:iJ}{m:Value}{l:List gM}{seen:List (List UInt8)}{l0:List gM}{y:gM}{css:List (List Value)}{q:iJ}{f cap o:Nat}(h:my B D W c p m l seen l0 y css q f cap o){S:Nat->Prop}(h1:∀b,Fz B D W b->S b)(h2:S f)(h3:∀b,q.v.ownBlock=some b->S b)(r:c<=1000000):RR jE 22 S W p.a p.n p.c l:=by
 have j:=h.ecss;rw[h.ep,h.el];refine NW (css:=css++[gX y.s q.a q.n q.c]) iD (by simpa using h.row) (by simp) (fun cs d=>?_) (by simp[j]) h2 (fun i x cs e d=>?_)
 .obtain d|d:=bj.1 d
  .exact h.k cs d
  .simp only[aK]at d;subst d;rfl
 .by_cases hi:i<l0.length
  .rw[aF hi]at e
   rw[aF (by omega)]at d;exact iD.kept (h.rep i x cs e d) (gN.refl _ _) h1
  .have g:i=l0.length:=by
    have:=(TG.1 e).1;simp at this;omega
   subst g;simp only[bT,bA]at e;rw[<- j]at d;simp only[bT,bA]at d;subst e;subst d;exact h.last h3 r
def nG(at_:Int)(B:Nat)(D:Nat->Prop)(W:World)(c:Nat)(p:iJ)(m:Value)(l:List gM)(seen:List (List UInt8)):Prop:=
 p.n<=c/\((at_<7/\p=ij/\l=[])\/(at_=7/\ ∃l0 y css q b cap d,my B D W c p m l seen l0 y css q b cap d)\/(7<at_/\RR jE 22 (Fz B D W) W p.a p.n p.c l))
def nG.keep{at_:Int}{B:Nat}{D:Nat->Prop}{W W':World}{c:Nat}{p:iJ}{m:Value}{l:List gM}{seen:List (List UInt8)}(h:nG at_ B D W c p m l seen)(d:∀b,B<=b->b<W.heap.size->W'.heap[b]? =W.heap[b]?)(e:W.heap.size<=W'.heap.size):nG at_ B D W' c p m l seen:=by
 refine⟨h.1,h.2.imp id (Or.imp (fQ id fun h=>?_) (fQ id fun h=>?_))⟩
 .obtain⟨l0,y,css,q,f,cap,g,h⟩:=h
  exact⟨l0,y,css,q,f,cap,g,h.keep d e⟩
 .exact h.kept iD (fun b a=>d b a.1 a.2.1) (fun b a=>⟨a.1,ab a.2.1 e,a.2.2⟩)
def nG.wait{at_ at':Int}{B:Nat}{D D':Nat->Prop}{W W':World}{c c':Nat}{p:iJ}{m m':Value}{l:List gM}{seen a:List (List UInt8)}(h:nG at_ B D W c p m l seen)(hat:at_<7)(b:at'<7)(d:c<=c'):nG at' B D' W' c' p m' l a:=by
 refine⟨af h.1 d,VR ⟨b,?_⟩⟩
 obtain ⟨_,h⟩|⟨e,_⟩|⟨e,_⟩:=h.2
 .exact h
 .omega
 .omega
def nG.close{at_ at':Int}{B:Nat}{D D':Nat->Prop}{W W':World}{c c':Nat}{p:iJ}{m m':Value}{l:List gM}{seen d:List (List UInt8)}(h:nG at_ B D W c p m l seen)(hat:7<at')(i:c<=c')(f:c<=1000000)
 (j:gN (Fz B D W) W W')(k:∀b,Fz B D W b->Fz B D' W' b)(g:at_=7-> ∀b,B<=b->b<W.heap.size->W'.heap[b]? =W.heap[b]? /\Fz B D' W' b):nG at' B D' W' c' p m' l d:=by
 refine⟨af h.1 i,VS (VS ⟨hat,?_⟩)⟩
 obtain ⟨_,rfl,rfl⟩|⟨e,l0,y,css,q,n,cap,o,h⟩|⟨_,h⟩:=h.2
 .exact RR.nil _ _ _ _ _ _
 .exact(h.rr (S:=fun b=>B<=b/\b<W.heap.size) (fun b a=>⟨a.1,a.2.1⟩) h.bbB (fun b a=>gT h.t9.row a) f).kept iD (fun b a=>(g e b a.1 a.2).1) (fun b a=>(g e b a.1 a.2).2)
 .exact h.kept iD j k
def nG.rr{at_:Int}{B:Nat}{D:Nat->Prop}{W:World}{c:Nat}{p:iJ}{m:Value}{l:List gM}{seen:List (List UInt8)}(h:nG at_ B D W c p m l seen)(f:c<=1000000):RR jE 22 (fun b=>B<=b/\b<W.heap.size) W p.a p.n p.c l:=by
 obtain ⟨_,rfl,rfl⟩|⟨e,l0,y,css,q,g,cap,i,h⟩|⟨_,h⟩:=h.2
 .exact RR.nil _ _ _ _ _ _
 .exact h.rr (fun b d=>⟨d.1,d.2.1⟩) h.bbB (fun b d=>gT h.t9.row d) f
 .exact h.kept iD (gN.refl _ _) (fun b d=>⟨d.1,d.2.1⟩)
structure qL (B:Nat) (D:Nat->Prop) (W:World) (c:Nat) (p:iJ) (l:List jd) (l0:List jd) (y:jd) (css:List (List Value)) (q:iJ) (bb cap:Nat):Prop where
 el:l=l0++[y]
 ep:p=⟨some ⟨bb,0,none⟩,l0.length+1,cap⟩
 ecss:css.length=l0.length
 k:∀cs∈css,cs.length=2
 row:W.ownsRow B 77 2 (.slice (J bb) (l0.length+1) cap) (l0.length+1) (css.flatten++[.string y.nm,.slice q.a q.n q.c])
 t9:sT B D W 74 3 q y.zs
 qn:q.n<=c
 rep:∀(i:Nat)(x:jd)(cs:List Value),l0[i]? =some x->css[i]? =some cs->oB (Fz B D W) W x cs
 dbb:D bb
 nm:y.nm.size<=1000000
def qL.bbB{B:Nat}{D:Nat->Prop}{W:World}{c:Nat}{p:iJ}{l l0:List jd}{y:jd}{css:List (List Value)}{q:iJ}{a cap:Nat}(h:qL B D W c p l l0 y css q a cap):B<=a/\a<W.heap.size:=gT h.row rfl
def qL.keep{B:Nat}{D:Nat->Prop}{W W':World}{c:Nat}{p:iJ}{l l0:List jd}{y:jd}{css:List (List Value)}{q:iJ}{e cap:Nat}(h:qL B D W c p l l0 y css q e cap)(d:∀b,B<=b->b<W.heap.size->W'.heap[b]? =W.heap[b]?)(f:W.heap.size<=W'.heap.size):qL B D W' c p l l0 y css q e cap:=
 ⟨h.el,h.ep,h.ecss,h.k,me h.row (fun b a=>d b (gT h.row a).1 (gT h.row a).2),h.t9.keep (fun b a=>d b (gT h.t9.row a).1 (gT h.t9.row a).2) h.t9.inD,h.qn,
   fun i x cs h1 h2=>ky.kept (h.rep i x cs h1 h2) (fun b a=>d b a.1 a.2.1) (fun b a=>⟨a.1,ab a.2.1 f,a.2.2⟩),h.dbb,h.nm⟩
def qL.last{B:Nat}{D:Nat->Prop}{W:World}{c:Nat}{p:iJ}{l l0:List jd}{y:jd}{css:List (List Value)}{q:iJ}{d cap:Nat}(h:qL B D W c p l l0 y css q d cap){S:Nat->Prop}(e:∀b,q.v.ownBlock=some b->S b)(f:c<=1000000):oB S W y [y.nm,Z q.a q.n q.c]:=by
 obtain⟨h1,h2⟩:=h.t9.irp S e;exact⟨q.a,q.n,q.c,rfl,h1,by have:=h.qn;omega,h2,by have:=h.nm;omega⟩
def qL.rr{B:Nat}{D:Nat->Prop}{W:World}{c:Nat}{p:iJ}{l l0:List jd}{y:jd}{css:List (List Value)}{q:iJ}{f cap:Nat}(h:qL B D W c p l l0 y css q f cap){S:Nat->Prop}(h1:∀b,Fz B D W b->S b)(h2:S f)(h3:∀b,q.v.ownBlock=some b->S b)(m:c<=1000000):RR oB 2 S W p.a p.n p.c l:=by
 have j:=h.ecss;rw[h.ep,h.el];refine NW (css:=css++[[.string y.nm,.slice q.a q.n q.c]]) ky (by simpa using h.row) (by simp) (fun cs d=>?_) (by simp[j]) h2 (fun i x cs e d=>?_)
 .obtain d|d:=bj.1 d
  .exact h.k cs d
  .simp only[aK]at d;subst d;rfl
 .by_cases hi:i<l0.length
  .rw[aF hi]at e
   rw[aF (by omega)]at d;exact ky.kept (h.rep i x cs e d) (gN.refl _ _) h1
  .have g:i=l0.length:=by
    have:=(TG.1 e).1;simp at this;omega
   subst g;simp only[bT,bA]at e;rw[<- j]at d;simp only[bT,bA]at d;subst e;subst d;exact h.last h3 m
def nH(at_:Int)(B:Nat)(D:Nat->Prop)(W:World)(c:Nat)(p:iJ)(l:List jd):Prop:=
 p.n<=c/\((at_<8/\p=ij/\l=[])\/(at_=8/\ ∃l0 y css q b cap,qL B D W c p l l0 y css q b cap)\/(8<at_/\RR oB 2 (Fz B D W) W p.a p.n p.c l))
def nH.keep{at_:Int}{B:Nat}{D:Nat->Prop}{W W':World}{c:Nat}{p:iJ}{l:List jd}(h:nH at_ B D W c p l)(d:∀b,B<=b->b<W.heap.size->W'.heap[b]? =W.heap[b]?)(e:W.heap.size<=W'.heap.size):nH at_ B D W' c p l:=by
 refine⟨h.1,h.2.imp id (Or.imp (fQ id fun h=>?_) (fQ id fun h=>?_))⟩
 .obtain⟨l0,y,css,q,f,cap,h⟩:=h
  exact⟨l0,y,css,q,f,cap,h.keep d e⟩
 .exact h.kept ky (fun b a=>d b a.1 a.2.1) (fun b a=>⟨a.1,ab a.2.1 e,a.2.2⟩)
def nH.wait{at_ at':Int}{B:Nat}{D D':Nat->Prop}{W W':World}{c c':Nat}{p:iJ}{l:List jd}(h:nH at_ B D W c p l)(hat:at_<8)(a:at'<8)(b:c<=c'):nH at' B D' W' c' p l:=by
 refine⟨af h.1 b,VR ⟨a,?_⟩⟩
 obtain ⟨_,h⟩|⟨e,_⟩|⟨e,_⟩:=h.2
 .exact h
 .omega
 .omega
def nH.close{at_ at':Int}{B:Nat}{D D':Nat->Prop}{W W':World}{c c':Nat}{p:iJ}{l:List jd}(h:nH at_ B D W c p l)(hat:8<at')(g:c<=c')(d:c<=1000000)
 (i:gN (Fz B D W) W W')(j:∀b,Fz B D W b->Fz B D' W' b)(f:at_=8-> ∀b,B<=b->b<W.heap.size->W'.heap[b]? =W.heap[b]? /\Fz B D' W' b):nH at' B D' W' c' p l:=by
 refine⟨af h.1 g,VS (VS ⟨hat,?_⟩)⟩
 obtain ⟨_,rfl,rfl⟩|⟨e,l0,y,css,q,k,cap,h⟩|⟨_,h⟩:=h.2
 .exact RR.nil _ _ _ _ _ _
 .exact(h.rr (S:=fun b=>B<=b/\b<W.heap.size) (fun b a=>⟨a.1,a.2.1⟩) h.bbB (fun b a=>gT h.t9.row a) d).kept ky (fun b a=>(f e b a.1 a.2).1) (fun b a=>(f e b a.1 a.2).2)
 .exact h.kept ky i j
def nH.rr{at_:Int}{B:Nat}{D:Nat->Prop}{W:World}{c:Nat}{p:iJ}{l:List jd}(h:nH at_ B D W c p l)(f:c<=1000000):RR oB 2 (fun b=>B<=b/\b<W.heap.size) W p.a p.n p.c l:=by
 obtain ⟨_,rfl,rfl⟩|⟨e,l0,y,css,q,g,cap,h⟩|⟨_,h⟩:=h.2
 .exact RR.nil _ _ _ _ _ _
 .exact h.rr (fun b d=>⟨d.1,d.2.1⟩) h.bbB (fun b d=>gT h.t9.row d) f
 .exact h.kept ky (gN.refl _ _) (fun b d=>⟨d.1,d.2.1⟩)
structure AX (B g c:Nat) (D:Nat->Prop) (r:jL) (W:World) (f v s k:iJ) (m:Value):Prop where
 gB:g<B
 c1:c<=100002
 dg:D g
 own:∀b,D b->(b=g\/B<=b)/\b<W.heap.size
 lo: -1<=r.at_
 hi:r.at_<=9
 nm:r.x.nm.size<=1000000
 fs:lS 5 r.at_ B D W 91 2 c f r.x.fs
 ws:lS 6 r.at_ B D W 93 2 c v r.x.ws
 l:nG r.at_ B D W c s m r.x.l r.seen
 cf:nH r.at_ B D W c k r.x.cf
def AX.keep{B g c:Nat}{D:Nat->Prop}{r:jL}{W W':World}{f v s k:iJ}{m:Value}(h:AX B g c D r W f v s k m)(d:∀b,B<=b->b<W.heap.size->W'.heap[b]? =W.heap[b]?)(a:W.heap.size<=W'.heap.size):AX B g c D r W' f v s k m:=
 ⟨h.gB,h.c1,h.dg,fun b e=>⟨(h.own b e).1,ab (h.own b e).2 a⟩,h.lo,h.hi,h.nm,h.fs.keep d a,h.ws.keep d a,h.l.keep d a,h.cf.keep d a⟩
def AX.lensAt{B g c:Nat}{D:Nat->Prop}{r:jL}{W:World}{f v s k:iJ}{m:Value}(h:AX B g c D r W f v s k m):iP (fun b=>B<=b/\b<W.heap.size) W r.x f v s k:=by
 have d:=h.c1;have h1:=h.fs.1;have h2:=h.ws.1;have h3:=h.l.1;have a:=h.cf.1;exact⟨h.fs.irp.1,h.ws.irp.1,h.l.rr (by omega),h.cf.rr (by omega),by omega,by omega,by omega,by omega,h.fs.irp.2,h.ws.irp.2,by have:=h.nm;omega⟩
def jm(W:World)(g:Nat)(x:gR)(at_:Int)(f v s k:iJ)(m:Value):Prop:=W.heap[g]? =some (.cells (iw x f v s k++[.int .i64 at_,m]).toArray 107 (0,0))
def vM(B g:Nat)(a:Int)(c:Nat)(D:Nat->Prop)(r:jL)(W:World):Prop:=∃f v s k m,jm W g r.x a f v s k m/\AX B g c D r W f v s k m
def At(B g:Nat)(c:Nat)(D:Nat->Prop)(r:jL)(W:World):Prop:=vM B g r.at_ c D r W
def NX{B g:Nat}{W:World}(c:g<B)(h:nx W g Ae ij ij ij ij (.map none)):At B g 0 (fun b=>b=g) Ae W:=
 ⟨ij,ij,ij,ij,.map none,h,c,by omega,rfl,fun b a=>⟨VR a,by rw[a];exact TK h⟩,by decide,by decide,by decide,
   ⟨aa _,VR ⟨by decide,rfl,rfl⟩⟩,⟨aa _,VR ⟨by decide,rfl,rfl⟩⟩,⟨aa _,VR ⟨by decide,rfl,rfl⟩⟩,⟨aa _,VR ⟨by decide,rfl,rfl⟩⟩⟩
def vM.keep{B g:Nat}{a:Int}{c:Nat}{D:Nat->Prop}{r:jL}{W W':World}(h:vM B g a c D r W)(d:∀b,b=g\/B<=b->b<W.heap.size->W'.heap[b]? =W.heap[b]?)(i:W.heap.size<=W'.heap.size):vM B g a c D r W':=by
 obtain⟨f,v,s,k,m,h1,h2⟩:=h;exact⟨f,v,s,k,m,(d g (VR rfl) (TK h1)).trans h1,h2.keep (fun b e=>d b (VS e)) i⟩
def vM.go{B g:Nat}{a:Int}{c:Nat}{D:Nat->Prop}{r:jL}{W W':World}(h:vM B g a c D r W)(d:Below W W W'):vM B g a c D r W':=h.keep (fun b _ e=>d.block b e) d.size
def vM.put{B g:Nat}{a:Int}{c:Nat}{D:Nat->Prop}{r:jL}{W:World}(h:vM B g a c D r W):At B g c D r (W.setCell ⟨g,9,none⟩ (.int .i64 r.at_)):=by
 obtain⟨f,v,s,k,m,h1,h2⟩:=h;have i:=h2.gB;refine⟨f,v,s,k,m,?_,h2.keep (fun b d _=>TI _ _ _ _ (fun e=>by have:b=g:=e;omega)) (by simp)⟩;have:=gG h1 9 (.int .i64 r.at_);simp only[iw,bK,bF,bD,aZ,aW]at this;exact this
def iE(B g:Nat)(d:Int)(c:Nat)(D:Nat->Prop)(a:Option jL)(W:World)(e:Ending)(W':World):Prop:=
 Below g W W'/\(∀k,k<W.heap.size-> ¬D k->W'.heap[k]? =W.heap[k]?)/\
  ((∃q,a=some q/\e=.returned (.tuple #[])/\ ∃D':Nat->Prop,(∀b,D' b->D b\/W.heap.size<=b)/\vM B g d (c+1) D' q W')\/(a=none/\e=iX))
def iE.bad{B g:Nat}{b:Int}{c:Nat}{D:Nat->Prop}{a:Option jL}{W W':World}(h:a=none)(d:Below W W W')(e:g<=W.heap.size):iE B g b c D a W iX W':=
 ⟨d.mono e,fun k f _=>d.block k f,VS ⟨h,rfl⟩⟩
def FJ(B b:Nat)(l:List UInt8)(w:World)(h:Lib.IsBuilder 87 5 B b (Lib.byteCells l) w)(h0:l≠[]):
 Calls prog 30 #[U b] w fun e w'=>e=.returned (.string (bs l))/\Below B w w':=by
 obtain⟨p,F,v,k,c,E⟩:∃p,Lib.BuilderAt 87 5 B b p (Lib.byteCells l) w:=by
  obtain h|h:=h
  .exact⟨_,h⟩
  .exact⟨_,h⟩
 have o:l.length≠0:=by simpa using h0
 rw[Lib.byteCells_length]at c
 obtain⟨g,cap,a,rfl,i,q,D,m,C,d⟩:∃g cap a,v=.slice (J g) l.length cap/\B<=g/\w.heap[g]? =some (.cells a 5 (0,0))/\l.length<=cap/\cap<=maxLen/\a.size=cap*1/\a.toList.take (l.length*1)=Lib.byteCells l:=by
  obtain ⟨_,y⟩|⟨g,cap,a,t,r⟩:=c.2
  .exact absurd y o
  .exact⟨g,cap,a,t,r⟩
 have c1:w.drew.cell? ⟨b,1,none⟩=some (.slice (J g) l.length cap):=by
  have s:w.drew.heap[b]? =some (.cells #[p,Z (J g) l.length cap] 87 (0,0)):=k;exact VV s 1
 have z:(Builtin.unsafeSliceData_ #[24] 151 #[Z (J g) l.length cap]).run prog w.drew=.ok (.pointer (J g)) w.drew:=
  Lib.run_unsafeSliceData_row _ _ _ _ _ _ (by omega)
 have A:(Builtin.unsafeString_ #[151,3] 9 #[U g,l.length]).run prog w.drew=.ok (.string (bs l)) (w.drew.freeze (J g) l.length):=by
  refine Lib.run_unsafeString_row w.drew 151 3 9 5 underlying151 (by kernel_rfl) g a.size (by have n:w.drew.heap[g]? =some (.cells a 5 (0,0)):=q;simp[World.shape?,n]) l h0 (by omega) (by unfold maxLen at m;omega) ?_;intro j x u;exact c.cells (g:=g) rfl j (.int .u8 x.toNat) (by simp[Lib.byteCells,u])
 have f:prog.follows .mixedOrders=true:=by kernel_rfl
 go_enter func30,ntmps30;go_wp2;go_region_o
 all_goals(go_wp2;go_ret;exact⟨rfl,Lib.below_freeze (Below.drew (TH B w)) (p:=J g) i _⟩)
structure nI (W W':World) (v:Value) (g2:Nat):Prop where
 kept:∀b,b<W.heap.size->v.ownBlock≠some b->W'.heap[b]? =W.heap[b]?
 size:W.heap.size<=W'.heap.size
 os:W'.os=W.os
 tape:W'.tape=W.tape
 output:W'.output=W.output
 hat:v.ownBlock=some g2\/W.heap.size<=g2
 lt:g2<W'.heap.size
def LJ{W d W':World}{v:Value}{g2 H:Nat}(a:Below W W d)(c:d.grownBy W' v.ownBlock)(hat:v.ownBlock=some g2\/g2=H)(f:W.heap.size<=H)(hlt:g2<W'.heap.size):nI W W' v g2:=
 ⟨fun b h1 h2=>(c.block b (ab h1 a.size) (fun e=>h2 e.symm)).trans (a.block b h1),af a.size c.size,c.os.trans a.os,c.tape.trans a.tape,c.output.trans a.output,hat.imp id (fun e=>by omega),hlt⟩
def nI.below{W W':World}{v:Value}{g2 g:Nat}(h:nI W W' v g2)(c:g<=W.heap.size)(a:∀b,v.ownBlock=some b->g<=b):Below g W W':=
 ⟨h.os,h.tape,h.output,h.size,fun k d=>h.kept k (by omega) (fun e=>by have:=a k e;omega)⟩
def lS.grow{i at_:Int}{B:Nat}{D D':Nat->Prop}{W W':World}{T:TypeId}{k c:Nat}{p:iJ}{zs d:List Int}{g2 cap:Nat}(h:lS i at_ B D W T k c p zs)
 (a:W'.ownsRow B T k (.slice (J g2) (p.n+1) cap) (p.n+1) (zs.map (Value.int .i64)++d.map (Value.int .i64)))(f:D' g2):lS i i B D' W' T k (c+1) ⟨some ⟨g2,0,none⟩,p.n+1,cap⟩ (zs++d):=
 ⟨by have:=h.1;show p.n+1<=c+1;omega,VS (VR ⟨rfl,by rw[aT];exact a,(fun b e=>by cases e;exact f),fun e=>by have:p.n+1=0:=e;omega⟩)⟩
def NY{B g g2:Nat}{D:Nat->Prop}{W W':World}{v:Value}(d:g<B)(c:∀b,v.ownBlock=some b->D b)(h:nI W W' v g2):(∀b,Fz B D W b->W'.heap[b]? =W.heap[b]?)/\ ∀b,Fz B D W b->Fz B (fun b=>b=g\/b=g2) W' b:=by
 refine⟨fun b a=>h.kept b a.2.1 (fun e=>a.2.2 (c b e)),fun b a=>⟨a.1,ab a.2.1 h.size,?_⟩⟩;rintro(e|e)
 .have:=a.1;omega
 .obtain e2|e2:=h.hat
  .exact a.2.2 (c b (by rw[e];exact e2))
  .have:=a.2.1;omega
def nJ{W:World}{g:Nat}{x d:gR}{a:Int}{f v s k b c s' k':iJ}{m m':Value}{j:Nat}{u:Value}(h:jm W g x a f v s k m)(e:(iw x f v s k++[.int .i64 a,m]).set j u=iw d b c s' k'++[.int .i64 a,m']):jm (W.setCell ⟨g,j,none⟩ u) g d a b c s' k' m':=by
 have:=gG h j u;rw[bK,e]at this;exact this
def kZ{B:Nat}{W W':World}{g j:Nat}{u:Value}(h:Below B W W')(a:B<=g):Below B W (W'.setCell ⟨g,j,none⟩ u):=h.setCell (p:=⟨g,j,none⟩) a u
def iS{W:World}{g j b:Nat}{u:Value}(h:b≠g):(W.setCell ⟨g,j,none⟩ u).heap[b]? =W.heap[b]? :=TI _ _ _ _ (fun e=>h e)
def LK{B g:Nat}{e:Int}{c:Nat}{D:Nat->Prop}{r:jL}{W:World}{f v s k:iJ}{m:Value}{a:gR}{n j:Nat}{u:Value}(w:jm W g r.x e f v s k m)(d:AX B g c D r W f v s k m)(y:(iw r.x f v s k++[.int .i64 e,m]).set j u=iw a f v s k++[.int .i64 e,m])
 (z:a.fs=r.x.fs/\a.ws=r.x.ws/\a.l=r.x.l/\a.cf=r.x.cf)(i:a.nm.size<=1000000)(hat:r.at_<5)(A:n<5)(h1:c<=100001):vM B g e (c+1) D ⟨a,(n:Int),[]⟩ (W.setCell ⟨g,j,none⟩ u):=by
 obtain⟨o,p,q,t⟩:=z;refine⟨f,v,s,k,m,nJ w y,d.gB,by omega,d.dg,fun b h=>⟨(d.own b h).1,by simpa using(d.own b h).2⟩,by show(-1:Int)<=(n:Int);omega,by show(n:Int)<=9;omega,i,?_,?_,?_,?_⟩
 .show lS 5 (n:Int) _ _ _ _ _ _ _ a.fs
  rw[o];exact d.fs.wait (by omega) (by omega) (by omega)
 .show lS 6 (n:Int) _ _ _ _ _ _ _ a.ws
  rw[p];exact d.ws.wait (by omega) (by omega) (by omega)
 .show nG (n:Int) _ _ _ _ _ _ a.l _
  rw[q];exact d.l.wait (by omega) (by omega) (by omega)
 .show nH (n:Int) _ _ _ _ _ a.cf
  rw[t];exact d.cf.wait (by omega) (by omega) (by omega)
def qM{B g:Nat}{d:Int}{c:Nat}{D:Nat->Prop}{r:jL}{i W:World}{f v s k:iJ}{m:Value}{a:gR}{n j:Nat}{u:Value}{o:Option jL}(F:o=some ⟨a,(n:Int),[]⟩)(q:Below i i W)(A:jm W g r.x d f v s k m)(p:AX B g c D r W f v s k m)(C:(iw r.x f v s k++[.int .i64 d,m]).set j u=iw a f v s k++[.int .i64 d,m])
 (H:a.fs=r.x.fs/\a.ws=r.x.ws/\a.l=r.x.l/\a.cf=r.x.cf)(z:a.nm.size<=1000000)(hat:r.at_<5)(E:n<5)(h1:c<=100001)(y:g<=i.heap.size):iE B g d c D o i (.returned (.tuple #[])) (W.setCell ⟨g,j,none⟩ u):=
 ⟨kZ (q.mono y) (aa _),fun b t w=>(iS (fun e=>w (by rw[e];exact p.dg))).trans (q.block b t),VR ⟨_,F,rfl,D,fun _ h=>VR h,LK A p C H z hat E h1⟩⟩
def FK{B g:Nat}{i:Int}{c:Nat}{D:Nat->Prop}{r:jL}{h W W':World}{f v s k:iJ}{m:Value}{u:List Int}{g2 cap:Nat}{t:Option jL}(z:t=some ⟨{r.x with fs:=r.x.fs++u},5,[]⟩)(d:Below h h W)(hA:jm W g r.x i f v s k m)(hL:AX B g c D r W f v s k m)
 (hrow:W'.ownsRow B 91 2 (.slice (J g2) (f.n+1) cap) (f.n+1) (r.x.fs.map (Value.int .i64)++u.map (Value.int .i64)))(hgr:nI W W' f.v g2)(hg2:B<=g2)(hat:r.at_<=5)(h1:c<=100001)(hg0:B<=h.heap.size):
 iE B g i c D t h (.returned (.tuple #[])) (W'.setCell ⟨g,5,none⟩ (.slice (J g2) (f.n+1) cap)):=by
 have q:=hL.gB;have a:=hL.fs.own hat;have hlt:=TK hA
 have j:f.v.ownBlock≠some g:=fun e=>by have:=(gT a.row e).1;omega
 have w:jm W' g r.x i f v s k m:=(hgr.kept g hlt j).trans hA
 have y:∀b,(b=g\/b=g2)->D b\/h.heap.size<=b:=by
  rintro b (e|e)
  .exact VR (by rw[e];exact hL.dg)
  .obtain e2|e2:=hgr.hat
   .exact VR (by rw[e];exact a.inD g2 e2)
   .exact VS (by have:=d.size;omega)
 obtain⟨A,C⟩:=NY q a.inD hgr;refine⟨kZ ((d.mono (by omega)).trans (hgr.below (by omega) (fun b e=>by have:=(gT a.row e).1;omega))) (aa _),fun b o p=>?_,VR ⟨_,z,rfl,fun b=>b=g\/b=g2,y,⟨⟨some ⟨g2,0,none⟩,f.n+1,cap⟩,v,s,k,m,?_,?_⟩⟩⟩
 .exact(iS (fun e=>p (by rw[e];exact hL.dg))).trans ((hgr.kept b (ab o d.size) (fun e=>p (a.inD b e))).trans (d.block b o))
 .exact nJ w rfl
 .have key:AX B g (c+1) (fun b=>b=g\/b=g2) ⟨{r.x with fs:=r.x.fs++u},5,[]⟩ W' ⟨some ⟨g2,0,none⟩,f.n+1,cap⟩ v s k m:=
   ⟨q,by omega,VR rfl,fun b d=>by
     obtain e|e:=d
     .exact⟨VR e,by rw[e];exact ab hlt hgr.size⟩
     .exact⟨VS (by rw[e];exact hg2),by rw[e];exact hgr.lt⟩,(by dsimp only;omega),(by dsimp only;omega),hL.nm,hL.fs.grow hrow (VS rfl),hL.ws.wait (by omega) (by dsimp only;omega) (by omega),hL.l.wait (by omega) (by dsimp only;omega) (by omega),hL.cf.wait (by omega) (by dsimp only;omega) (by omega)⟩
  exact key.keep (fun b d _=>iS (by omega)) (by simp)
def IC{B g:Nat}{o:Int}{c:Nat}{D:Nat->Prop}{r:jL}{j W W':World}{f v s k:iJ}{m:Value}{y:List Int}{g2 cap:Nat}{w:Option jL}(H:w=some ⟨{r.x with ws:=r.x.ws++y},6,[]⟩)(i:Below j j W)(hA:jm W g r.x o f v s k m)(hL:AX B g c D r W f v s k m)
 (hrow:W'.ownsRow B 93 2 (.slice (J g2) (v.n+1) cap) (v.n+1) (r.x.ws.map (Value.int .i64)++y.map (Value.int .i64)))(hgr:nI W W' v.v g2)(hg2:B<=g2)(hat:r.at_<=6)(h1:c<=100001)(hg0:B<=j.heap.size):
 iE B g o c D w j (.returned (.tuple #[])) (W'.setCell ⟨g,6,none⟩ (.slice (J g2) (v.n+1) cap)):=by
 have t:=hL.gB;have a:=hL.ws.own hat;have hlt:=TK hA
 have p:v.v.ownBlock≠some g:=fun e=>by have:=(gT a.row e).1;omega
 have z:jm W' g r.x o f v s k m:=(hgr.kept g hlt p).trans hA
 have A:∀b,(b=g\/b=g2)->D b\/j.heap.size<=b:=by
  rintro b (e|e)
  .exact VR (by rw[e];exact hL.dg)
  .obtain e2|e2:=hgr.hat
   .exact VR (by rw[e];exact a.inD g2 e2)
   .exact VS (by have:=i.size;omega)
 obtain⟨E,F⟩:=NY t a.inD hgr;refine⟨kZ ((i.mono (by omega)).trans (hgr.below (by omega) (fun b e=>by have:=(gT a.row e).1;omega))) (aa _),fun b q d=>?_,VR ⟨_,H,rfl,fun b=>b=g\/b=g2,A,⟨f,⟨some ⟨g2,0,none⟩,v.n+1,cap⟩,s,k,m,?_,?_⟩⟩⟩
 .exact(iS (fun e=>d (by rw[e];exact hL.dg))).trans ((hgr.kept b (ab q i.size) (fun e=>d (a.inD b e))).trans (i.block b q))
 .exact nJ z rfl
 .have key:AX B g (c+1) (fun b=>b=g\/b=g2) ⟨{r.x with ws:=r.x.ws++y},6,[]⟩ W' f ⟨some ⟨g2,0,none⟩,v.n+1,cap⟩ s k m:=
   ⟨t,by omega,VR rfl,fun b i=>by
     obtain e|e:=i
     .exact⟨VR e,by rw[e];exact ab hlt hgr.size⟩
     .exact⟨VS (by rw[e];exact hg2),by rw[e];exact hgr.lt⟩,(by dsimp only;omega),(by dsimp only;omega),hL.nm,hL.fs.close (by dsimp only;omega) (by omega) E F (fun K b C=>?_),hL.ws.grow hrow (VS rfl),hL.l.wait (by omega) (by dsimp only;omega) (by omega),hL.cf.wait (by omega) (by dsimp only;omega) (by omega)⟩
  .exact key.keep (fun b i _=>iS (by omega)) (by simp)
  .
   have u:v=ij:=by
    obtain ⟨_,h,_⟩|⟨h,_⟩|⟨h,_⟩:=hL.ws.2
    .exact h
    .omega
    .omega
   have d:=gT (hL.fs.own (by omega)).row C;refine⟨hgr.kept b d.2 (by rw[u];intro e;cases e),d.1,ab d.2 hgr.size,?_⟩;rintro(e|e)
   .omega
   .obtain e2|e2:=hgr.hat
    .rw[u]at e2;cases e2
    .omega
def Xy{B g:Nat}{o:Int}{c:Nat}{D:Nat->Prop}{r:jL}{n W:World}{p:Option jL}(w:p=some ⟨r.x,9,[]⟩)(d:Below n n W)(h:vM B g o c D r W)(hat:r.at_<=8)(h1:c<=100001)(y:B<=n.heap.size):
 iE B g o c D p n (.returned (.tuple #[])) W:=by
 obtain⟨f,v,s,k,m,q,i⟩:=h;have u:=i.gB;have hlt:=TK q
 have a:∀b,B<=b->b<W.heap.size->W.heap[b]? =W.heap[b]? /\Fz B (fun b=>b=g) W b:=fun b h2 h3=>⟨rfl,h2,h3,by intro e;omega⟩
 refine⟨d.mono (by omega),fun b t _=>d.block b t,VR ⟨_,w,rfl,fun b=>b=g,fun b e=>VR (by rw[e];exact i.dg),f,v,s,k,m,q,u,by omega,rfl,fun b e=>⟨VR e,by rw[e];exact hlt⟩,(by dsimp only;omega),(by dsimp only;omega),i.nm,?_,?_,?_,?_⟩⟩
 .exact i.fs.close (by dsimp only;omega) (by omega) (fun b _=>rfl) (fun b d=>(a b d.1 d.2.1).2) (fun e b j=>a b (gT (i.fs.own (by omega)).row j).1 (gT (i.fs.own (by omega)).row j).2)
 .exact i.ws.close (by dsimp only;omega) (by omega) (fun b _=>rfl) (fun b d=>(a b d.1 d.2.1).2) (fun e b j=>a b (gT (i.ws.own (by omega)).row j).1 (gT (i.ws.own (by omega)).row j).2)
 .exact i.l.close (by show(7:Int) <9;decide) (by omega) (by omega) (fun b _=>rfl) (fun b d=>(a b d.1 d.2.1).2) (fun _ b h2 h3=>a b h2 h3)
 .exact i.cf.close (by show(8:Int) <9;decide) (by omega) (by omega) (fun b _=>rfl) (fun b d=>(a b d.1 d.2.1).2) (fun _ b h2 h3=>a b h2 h3)
def Ia(cl:List jQ)(ws:List Int)(y:gM):Prop:=
 ∃(c:Nat)(g:jQ),cl[c]? =some g/\g.nm=y.s.e9/\ ∀j,j<ws.length/2->g.lo<=ws.getD (j*2) 0/\ws.getD (j*2) 0<=g.hi/\g.Far (ws.getD (j*2) 0)/\ ∃A S,Sx g (ws.getD (j*2) 0) A S
def xg(zs:List Int):Prop:=∀z∈zs,10000000<=z/\z<=40000000
def Rh(w:World)(n:Nat)(e:Ending)(w':World):Prop:=
 ∃a c zs,e=.returned (.tuple #[Z a n c,oZ])/\IRp (fun b=>w.heap.size<=b/\b<w'.heap.size) w' 1 a n c zs/\(a=none->c=0)/\xg zs/\Below w w w'
def EU(n:Nat):xg (List.replicate n 10000000):=by
 intro z a;obtain⟨_,rfl⟩:=List.mem_replicate.1 a;omega
def Ib(x:gR)(f v s k:iJ)(cl:List jQ)(ga:Option Addr)(gn gc:Nat)(i:Nat)(y:gM)(za:Option Addr)(zc:Nat)(zs:List Int)(w:World)(hx:iP (fun b=>b<w.heap.size) w x f v s k)(d:x.l[i]? =some y)
 (d5:RR EQ 10 (fun b=>b<w.heap.size) w ga gn gc cl)(d6:Ch cl)(P:IRp (fun b=>b<w.heap.size) w 1 za v.n zc zs)(f0:za=none->zc=0)(f1:xg zs)(g9:v.n<=5)
 (e5:zN x.l i y=false->y.s.e9.toList.isEmpty=false->Ia cl x.ws y):
 Calls prog 53 #[jG x f v s k,Z ga gn gc,.int .i64 (i:Int),Z za v.n zc] w (Rh w v.n):=by
 obtain⟨sa,n,sc⟩:=s;obtain⟨va,m,vc⟩:=v;simp only at P g9⊢
 have g5:i<n:=by have:=hx.l.1;simp only at this;rw[<- this];exact(TG.1 d).1
 have i1:n<=1000000:=hx.sn;have e6:x.ws.length=m*2:=hx.ws.1;obtain⟨b1,off,q,cs,e1,hlt,e8,⟨a2,n2,c2,rfl,hq,g7,g2,D⟩,hr⟩:=hx.l.at g5;rw[d]at e8;cases e8;simp only at e1;subst e1;have Kg:=O (hr 13 _ rfl);have Hx:=O hx;have Hy:=O d;have a1:=O d5;have b2:=O d6;have Hz:=O P;have f9:=O f0;have g0:=O f1;have f6:=O e5;have f8:=O e6;have h5:=O D;clear hx d d5 d6 P f0 f1 e5 e6 hq g7 g2 D hr;have Q:=O (show hU (w.alloc (.cells (iw x f ⟨va,m,vc⟩ ⟨some ⟨b1,off,none⟩,n,sc⟩ k).toArray 38)) w 38 x f ⟨va,m,vc⟩ ⟨some ⟨b1,off,none⟩,n,sc⟩ k from TL w _);have F:=O ((TH w w).alloc (aa _) (.cells (iw x f ⟨va,m,vc⟩ ⟨some ⟨b1,off,none⟩,n,sc⟩ k).toArray 38));unfold jG;go_enter func53,ntmps53;go_upto_region 1 with fail;refine gI (fun wx=>hU wx w 38 x f ⟨va,m,vc⟩ ⟨some ⟨b1,off,none⟩,n,sc⟩ k/\Below w w wx) ⟨Q,F⟩ ?_;clear Q F;rintro w1 ⟨b9,d2⟩;have h8:=b9.lt;have Q:=O b9;have F:=O d2;clear b9 d2
 go_wp2_with(refine it Q rfl (.tmp 4) rfl rfl ?_)
 refine(ES x f ⟨va,m,vc⟩ ⟨some ⟨b1,off,none⟩,n,sc⟩ k i y w1 (Hx.go F) Hy).mono ?_;rintro e B ⟨he,R⟩;cases hth:zN x.l i y
 .rw[hth]at he
  subst he;have f7:=O hth;clear hth;have D:=Q.go R;obtain⟨_,_,_,_,_,_,c6,c7,_⟩:=D.cells;have h9:=D.lt;have C:=I F R;have kg:=(C.cell (p:=⟨b1,off+i*22+13,none⟩) hlt).trans Kg;have h3:b1<B.heap.size:=ab hlt C.size;have a3:=O D;have r:=O C;clear D C R;cases hem:y.s.e9.toList.isEmpty
  .obtain⟨u,g,b8,d9,a4⟩:=f6 f7 hem
   have g3:u<gn:=by rw[<- a1.1];exact(TG.1 b8).1
   have f2:gn<=40:=by rw[<- a1.1];exact b2.len
   have b0:=O b8;have c3:=O a4;have f5:=O d9;clear b8 a4 d9;go_wp2_with fail;rw[<- f5];refine(ER cl ga gn gc u g B (a1.go wl r) b2 b0).mono ?_;rintro e w3 ⟨rfl,M⟩;have c8:=O (a3.go M);have a0:=O (I r M);clear M c6 c7 kg a3 r;go_wp2
   go_loopw [12,13] (fun ov iv wr=>∃(j:Nat)(qs:List Int),j<=m/\iv=.int .i64 (j:Int)/\wr.ownsRow (w+1) 3 1 ov j (qs.map (Value.int .i64))/\xg qs/\hU wr w 38 x f ⟨va,m,vc⟩ ⟨some ⟨b1,off,none⟩,n,sc⟩ k/\Below w w wr) (fun _ iv _=>m-(intOf iv).toNat)
   case atStart=>exact⟨0,[],by omega,rfl,World.ownsRow_nil _ _ _ _,(fun z h=>by cases h),c8,a0⟩
   case round=>
    clear c8 a0;obtain⟨j,qs,hj,rfl,ho,e2,hg,hb⟩:=hrel;obtain⟨_,_,_,_,_,_,c6,c7,_⟩:=hg.cells;have hl:=hg.lt;have g1:=hb.size;have Ho:=O ho;have d0:=O e2;have Hg:=O hg;have Hb:=O hb;clear ho e2 hg hb;by_cases h7:j<m
    .obtain⟨g6,g4,a5,A,S,d8⟩:=c3 j (by rw[f8];omega)
     obtain⟨b3,o3,e3,c5,d4⟩:=(Hx.go Hb).ws.2.2 (by show 0<m;omega);simp only at e3;subst e3;have x0:=d4 (j*2) (by show j*2<m*2;omega);obtain⟨b4,E,q4,h6,e4,a,e0,⟨rfl,h4⟩,t⟩:=(a1.go wl Hb).at g3;rw[b0]at e0;cases e0;subst e4;have z0:=t 0 _ rfl;have z1:=t 1 _ rfl;have z2:=t 2 _ rfl;have z3:=t 3 _ rfl;have z4:=t 4 _ rfl;have z5:=t 5 _ rfl;have z6:=t 6 _ rfl;have z7:=t 7 _ rfl;have z8:=t 8 _ rfl;have z9:=t 9 _ rfl;rw[bE]at z0;generalize x.ws.getD (j*2) 0=L at*;have b5:=O d8;have c4:=O a5;clear d8 a5 t d4;have g8:=O (b2.ok g (aL b0));go_upto_region 12 with fail;refine ic 14 [13] [] [(0,true),(1,true),(2,true),(3,true),(4,true),(5,true),(6,true),(7,true),(8,true),(9,true),(10,false),(11,true),(12,true),(13,true)] (by kernel_rfl) (by kernel_rfl) ⟨by simp,by simp,fun _ h=>by cases h⟩ (fun _ _ _ _ _ h=>h) (fun _ _ o _ _ h=>by cases o<;>exact h) ?_
     iterate 10
      refine gZ (v:=?_) ?_ ?_;rotate_left
      .intro y d
       have y0:=(d.cell (p:=⟨b4,E+u*10,none⟩) a).trans z0;have y1:=(d.cell (p:=⟨b4,E+u*10+1,none⟩) a).trans z1;have y2:=(d.cell (p:=⟨b4,E+u*10+2,none⟩) a).trans z2;have y3:=(d.cell (p:=⟨b4,E+u*10+3,none⟩) a).trans z3;have y4:=(d.cell (p:=⟨b4,E+u*10+4,none⟩) a).trans z4;have y5:=(d.cell (p:=⟨b4,E+u*10+5,none⟩) a).trans z5;have y6:=(d.cell (p:=⟨b4,E+u*10+6,none⟩) a).trans z6;have y7:=(d.cell (p:=⟨b4,E+u*10+7,none⟩) a).trans z7;have y8:=(d.cell (p:=⟨b4,E+u*10+8,none⟩) a).trans z8;have y9:=(d.cell (p:=⟨b4,E+u*10+9,none⟩) a).trans z9;have i2:=(d.cell (p:=⟨w.heap.size,6,none⟩) hl).trans c6;have i3:=(d.cell (p:=⟨b3,o3+j*2,none⟩) c5).trans x0;go_simp;with_reducible rfl
      try simp only[V]
     clear x0 z0 z1 z2 z3 z4 z5 z6 z7 z8 z9;refine iK (fun xa e7 K hK=>?_);go_simp;obtain⟨T,hT⟩:=tV (((S+1)/2:Nat):Int);have c0:=HZ g L xa g8 g6 g4 c4 A S b5;rw[<- hT]at c0
     have d1:10000000<=T/\T<=40000000:=by
      have:=b5.lo;have:=b5.hi;omega
     have f3:=O d1;clear hT d1;refine c0.mono ?_;clear c0;rintro e w5 ⟨rfl,b7⟩;refine hK _ _ b7 ?_;clear hK K;(try simp only[V]);have c1:=gJ (k:=1) e7;have a9:=O (c1.trans (b7.mono c1.size));clear e7 c1 b7
     iterate 2
      refine gZ (v:=?_) ?_ ?_;rotate_left
      .intro y d
       skip;go_simp;with_reducible rfl
      try simp only[V]
     iterate 1
      refine iy (v:=?_) ?_ ?_;rotate_left
      .intro y
       go_simp;with_reducible rfl
      try simp only[V]
     refine jV rfl (fun w6 W=>?_);have X:=a9.trans (W.mono a9.size);have c9:=O (Hg.go X);have a8:=O (I Hb X);have b6:=O (kD Ho X);have h0:w.heap.size<=w6.heap.size:=af g1 X.size;have i0:w.heap.size<w6.heap.size:=c9.lt;clear X W a9 c6 c7
     go_wp2_with(refine je underlying133 Tryz.infoInt1 rfl (by omega) (by omega) rfl (.tmp 70) (.tmp 72) rfl (w+1) _ j qs rfl (b6.alloc _) (fun _=>True) _ 1 1 [T] rfl (uC rfl rfl rfl) (fun e=>by cases e) (by omega) (by simp;omega) ?_;intro v' w4 N c;have a7:=O N;have H:=O c;clear N c)
     have e1:=(jI (base:=w.heap.size+1) b6 H (b:=w.heap.size) (by omega) (by omega)).trans c9;have E3:=O (jF a8 b6 H (by omega) (by omega));have E1:=O e1;clear e1
     go_roundw
     case rel=>exact⟨j+1,_,by omega,by go_num,a7,(fun z P=>by
      obtain P|P:=bj.1 P
      .exact d0 z P
      .obtain rfl:=aK.1 P;exact f3),E1,E3⟩
     case measure=>simp[intOf];omega
    .obtain rfl:j=m:=by omega
     obtain⟨oa,oc,e,h1,h2⟩:=lc Ho;subst e;go_wp2;go_ret2;exact⟨oa,oc,qs,rfl,h2.kept (gN.refl _ _) (fun b h=>⟨by have:=h.1;omega,h.2⟩),h1,d0,Hb⟩
  .go_wp2_with fail
   refine(Jx m B (by omega)).mono ?_;rintro e w3 ⟨ov,qs,rfl,ho,rfl,M⟩;obtain⟨oa,oc,rfl,h1,h2⟩:=lc ho;have Ho:=O h2;have a0:=O M;have Hc:=O h1;clear h1 h2 ho M;go_wp2;go_ret2;exact⟨oa,oc,_,rfl,Ho.kept (gN.refl _ _) (fun b h=>⟨by have:=h.1;have:=r.size;omega,h.2⟩),Hc,EU m,I r a0⟩
 .rw[hth]at he
  subst he;have r:=O (I F R);clear R
  go_wp2_with(refine je underlying133 Tryz.infoInt1 rfl (by omega) (by omega) rfl (.tmp 19) (.tmp 20) rfl B (.slice (J (B.heap.size)) 0 0) 0 [] rfl (World.ownsRow_made B #[] 0 (aa _) (by simp) rfl) (fun b=>b<B.heap.size) za m zc zs rfl (Hz.kept ((gE r).trans (gE ((TH B B).alloc (aa _) _)|>.mono (fun b h=>ab h r.size))) (fun b h=>ab h r.size)) f9 (by omega) (by simp) ?_;intro v' w6 a6 c;obtain⟨a',c',rfl,d3,hi⟩:=lc a6;have W:Below B B w6:=((TH _ _).alloc (aa _) _).grown c (by simp) (by intro k hk;simp[Value.ownBlock]at hk;omega);clear a6 c;have Hi:=O hi;have Hc:=O d3;have a8:=O W;clear hi d3 W)
  have d7:IRp (fun b=>B.heap.size<=b/\b<w6.heap.size) w6 1 a' m c' zs:=by have k:=Hi.out;rw[aV]at k;exact k
  have f4:=O d7;clear d7;go_ret2;exact⟨a',c',zs,by simp,f4.kept (gN.refl _ _) (fun b h=>⟨af r.size h.1,h.2⟩),Hc,g0,I r a8⟩
structure xq {α:Type} (R:pB α) (k:Nat) (T:TypeId) (B:Nat) (D:Nat->Prop) (W:World) (p:iJ) (l:List α) (css:List (List Value)):Prop where
 row:W.ownsRow B T k p.v p.n css.flatten
 len:css.length=l.length
 n:p.n=l.length
 k:∀cs∈css,cs.length=k
 rep:∀(i:Nat)(x:α)(cs:List Value),l[i]? =some x->css[i]? =some cs->R (fun b=>B<=b/\b<W.heap.size/\p.v.ownBlock≠some b) W x cs
 inD:∀b,p.v.ownBlock=some b->D b
def xq.nil{α:Type}(R:pB α)(k:Nat)(T:TypeId)(B:Nat)(D:Nat->Prop)(W:World):xq R k T B D W ij [] []:=
 ⟨World.ownsRow_nil _ _ _ _,rfl,rfl,by simp,fun i x cs h=>by simp at h,fun b e=>by cases e⟩
def ue{W:World}{B l k k' n n' b:Nat}{T d:TypeId}{v f:Value}{xs h:List Value}(h1:W.ownsRow B T k v n xs)(h2:W.ownsRow l d k' f n' h)(m:T≠d)(e:v.ownBlock=some b):f.ownBlock≠some b:=by
 intro a
 obtain ⟨rfl,_⟩|⟨g,cap,p,rfl,_,o,_⟩:=h1.2
 .cases e
 .obtain ⟨rfl,_⟩|⟨q,i,j,rfl,_,c,_⟩:=h2.2
  .cases a
  .cases e;cases a
   rw[o]at c;cases c;exact m rfl
def XF{W:World}{B k n b:Nat}{T:TypeId}{v:Value}{xs:List Value}{ks:List ByteArray}(h1:W.ownsRow B T k v n xs)(h2:oC W b ks):v.ownBlock≠some b:=by
 intro c;obtain⟨f,a,h3,_⟩:=h2
 obtain ⟨rfl,_⟩|⟨g,cap,e,rfl,_,d,_⟩:=h1.2
 .cases c
 .cases c
  rw[d]at h3;cases h3
def my.ne{B:Nat}{D:Nat->Prop}{W:World}{c:Nat}{p:iJ}{m:Value}{l:List gM}{seen:List (List UInt8)}{l0:List gM}{y:gM}{css:List (List Value)}{q:iJ}{a cap b:Nat}(h:my B D W c p m l seen l0 y css q a cap b):q.v.ownBlock≠some a/\b≠a/\q.v.ownBlock≠some b:=
 ⟨ue h.row h.t9.row (by decide) rfl,fun e=>XF h.row h.map (by rw[e];rfl),XF h.t9.row h.map⟩
def my.flat{B:Nat}{D:Nat->Prop}{W:World}{c:Nat}{p:iJ}{m:Value}{l:List gM}{seen:List (List UInt8)}{l0:List gM}{y:gM}{css:List (List Value)}{q:iJ}{a cap b:Nat}(h:my B D W c p m l seen l0 y css q a cap b):css.flatten.length=l0.length*22:=by
 rw[lK css h.k,h.ecss]
def Au{W:World}{B k n b cap:Nat}{T:TypeId}{a cs:List Value}(h:W.ownsRow B T k (.slice (J b) n cap) n (a++cs))(j:Nat)(q:j<cs.length)(u:Value):(W.setCell ⟨b,a.length+j,none⟩ u).ownsRow B T k (.slice (J b) n cap) n (a++cs.set j u):=by
 obtain⟨h1,h2⟩:=h;refine⟨by rw[<- h1];simp,VS ?_⟩
 obtain ⟨e,_⟩|⟨g,c,p,e,d,f,i,l,m,o⟩:=h2
 .cases e
 .cases e
  refine⟨b,cap,_,rfl,d,gG f (a.length+j) u,i,l,by simpa using m,?_⟩;rw[Array.toList_setIfInBounds,List.take_set,o,fO,aj (by omega),dR]
def my.store{B:Nat}{D:Nat->Prop}{W:World}{c:Nat}{p:iJ}{m:Value}{l:List gM}{seen:List (List UInt8)}{l0:List gM}{y:gM}{css:List (List Value)}{q:iJ}{o cap r:Nat}(h:my B D W c p m l seen l0 y css q o cap r){off:Nat}{u:Value}{s2:gW}(g:off<22)
 (j:(gX y.s q.a q.n q.c).set off u=gX s2 q.a q.n q.c)(hgl:s2.e9.size<=1000000):my B D (W.setCell ⟨o,l0.length*22+off,none⟩ u) c p m (l0++[⟨s2,y.zs⟩]) seen l0 ⟨s2,y.zs⟩ css q o cap r:=by
 obtain⟨t,v,w⟩:=h.ne;have f:=Au h.row off g u;rw[h.flat,j]at f
 exact⟨rfl,h.ep,h.ecss,h.k,f,h.t9.keep (fun b d=>iS (fun e=>t (by rw[d,e]))) h.t9.inD,h.qn,fun i x cs h1 h2=>iD.kept (h.rep i x cs h1 h2) (fun b d=>iS (fun e=>d.2.2 (by rw[e];exact h.dbb))) (fun b d=>⟨d.1,by simpa using d.2.1,d.2.2⟩),
  h.dbb,hgl,h.em,h.map.block (iS v),h.dbm,h.bmB⟩
def my.film{B:Nat}{D:Nat->Prop}{W W':World}{c:Nat}{p:iJ}{m:Value}{l:List gM}{seen:List (List UInt8)}{l0:List gM}{y:gM}{css:List (List Value)}{q:iJ}{r cap t:Nat}(h:my B D W c p m l seen l0 y css q r cap t){u:List Int}{g2 a:Nat}
 (o:W'.ownsRow B 70 3 (.slice (J g2) (q.n+1) a) (q.n+1) (y.zs.map (Value.int .i64)++u.map (Value.int .i64)))(j:nI W W' q.v g2):
 my B (fun b=>D b\/b=g2) (W'.setCell ⟨r,l0.length*22+21,none⟩ (.slice (J g2) (q.n+1) a)) (c+1) p m (l0++[⟨y.s,y.zs++u⟩]) seen l0 ⟨y.s,y.zs++u⟩ css ⟨some ⟨g2,0,none⟩,q.n+1,a⟩ r cap t:=by
 obtain⟨C,E,F⟩:=h.ne;have w:=h.bbB;have f:=me h.row (W':=W') (fun b d=>by cases d;exact j.kept r w.2 C)
 have z:g2≠r:=by
  have A:=ue f o (by decide) (b:=r) rfl
  exact fun e=>A (by rw[e];rfl)
 have g:=Au f 21 (by show 21<22;omega) (.slice (J g2) (q.n+1) a);rw[h.flat]at g
 refine⟨rfl,h.ep,h.ecss,h.k,g,⟨rE (by rw[aT];exact o) (fun e=>by cases e;exact z rfl) _ _,(fun b e=>by cases e;exact VS rfl),fun e=>by have:q.n+1=0:=e;omega⟩,by have:=h.qn;show q.n+1<=c+1;omega,fun i x cs h1 h2=>iD.kept (h.rep i x cs h1 h2) (fun b d=>?_) (fun b d=>⟨d.1,?_,?_⟩),
  VR h.dbb,h.e9,h.em,h.map.block ((iS E).trans (j.kept t h.map.lt F)),VR h.dbm,h.bmB⟩
 .exact(iS (fun e=>d.2.2 (by rw[e];exact h.dbb))).trans (j.kept b d.2.1 (fun e=>d.2.2 (h.t9.inD b e)))
 .simpa using ab d.2.1 j.size
 .rintro(e|e)
  .exact d.2.2 e
  .obtain e2|e2:=j.hat
   .exact d.2.2 (h.t9.inD b (by rw[e];exact e2))
   .have:=d.2.1;omega
def nG.own{at_:Int}{B:Nat}{D:Nat->Prop}{W:World}{c:Nat}{p:iJ}{m:Value}{l:List gM}{seen:List (List UInt8)}(h:nG at_ B D W c p m l seen)(hat:at_<=7)(t:c<=1000000):∃css,xq jE 22 64 B D W p l css:=by
 obtain ⟨_,rfl,rfl⟩|⟨e,l0,y,css,q,r,cap,v,h⟩|⟨h,_⟩:=h.2
 .exact⟨[],xq.nil _ _ _ _ _ _⟩
 .obtain⟨u,w,z⟩:=h.ne
  have o:=h.ecss;refine⟨css++[gX y.s q.a q.n q.c],?_⟩;rw[h.ep,h.el];refine⟨by show World.ownsRow _ _ _ _ (.slice (J r) (l0.length+1) cap) _ _;simpa using h.row,by simp[o],by simp,fun cs d=>?_,fun i x cs g d=>?_,fun b e=>by cases e;exact h.dbb⟩
  .obtain d|d:=bj.1 d
   .exact h.k cs d
   .simp only[aK]at d;subst d;rfl
  .by_cases hi:i<l0.length
   .rw[aF hi]at g
    rw[aF (by omega)]at d;exact iD.kept (h.rep i x cs g d) (gN.refl _ _) (fun b f=>⟨f.1,f.2.1,fun e=>by cases e;exact f.2.2 h.dbb⟩)
   .have j:i=l0.length:=by
     have:=(TG.1 g).1;simp at this;omega
    subst j;simp only[bT,bA]at g;rw[<- o]at d;simp only[bT,bA]at d;subst g;subst d;exact h.last (fun b f=>⟨(gT h.t9.row f).1,(gT h.t9.row f).2,fun e=>by cases e;exact u f⟩) t
 .omega
def qL.ne{B:Nat}{D:Nat->Prop}{W:World}{c:Nat}{p:iJ}{l l0:List jd}{y:jd}{css:List (List Value)}{q:iJ}{a cap:Nat}(h:qL B D W c p l l0 y css q a cap):q.v.ownBlock≠some a:=ue h.row h.t9.row (by decide) rfl
def nH.own{at_:Int}{B:Nat}{D:Nat->Prop}{W:World}{c:Nat}{p:iJ}{l:List jd}(h:nH at_ B D W c p l)(hat:at_<=8)(r:c<=1000000):∃css,xq oB 2 77 B D W p l css:=by
 obtain ⟨_,rfl,rfl⟩|⟨e,l0,y,css,q,o,cap,h⟩|⟨h,_⟩:=h.2
 .exact⟨[],xq.nil _ _ _ _ _ _⟩
 .have s:=h.ne
  have m:=h.ecss;refine⟨css++[[.string y.nm,.slice q.a q.n q.c]],?_⟩;rw[h.ep,h.el];refine⟨by show World.ownsRow _ _ _ _ (.slice (J o) (l0.length+1) cap) _ _;simpa using h.row,by simp[m],by simp,fun cs d=>?_,fun i x cs g d=>?_,fun b e=>by cases e;exact h.dbb⟩
  .obtain d|d:=bj.1 d
   .exact h.k cs d
   .simp only[aK]at d;subst d;rfl
  .by_cases hi:i<l0.length
   .rw[aF hi]at g
    rw[aF (by omega)]at d;exact ky.kept (h.rep i x cs g d) (gN.refl _ _) (fun b f=>⟨f.1,f.2.1,fun e=>by cases e;exact f.2.2 h.dbb⟩)
   .have j:i=l0.length:=by
     have:=(TG.1 g).1;simp at this;omega
    subst j;simp only[bT,bA]at g;rw[<- m]at d;simp only[bT,bA]at d;subst g;subst d;exact h.last (fun b f=>⟨(gT h.t9.row f).1,(gT h.t9.row f).2,fun e=>by cases e;exact s f⟩) r
 .omega
def qL.flat{B:Nat}{D:Nat->Prop}{W:World}{c:Nat}{p:iJ}{l l0:List jd}{y:jd}{css:List (List Value)}{q:iJ}{a cap:Nat}(h:qL B D W c p l l0 y css q a cap):css.flatten.length=l0.length*2:=by
 rw[lK css h.k,h.ecss]
def qL.film{B:Nat}{D:Nat->Prop}{W W':World}{c:Nat}{p:iJ}{l l0:List jd}{y:jd}{css:List (List Value)}{q:iJ}{o cap:Nat}(h:qL B D W c p l l0 y css q o cap){r:List Int}{g2 a:Nat}
 (m:W'.ownsRow B 74 3 (.slice (J g2) (q.n+1) a) (q.n+1) (y.zs.map (Value.int .i64)++r.map (Value.int .i64)))(j:nI W W' q.v g2):
 qL B (fun b=>D b\/b=g2) (W'.setCell ⟨o,l0.length*2+1,none⟩ (.slice (J g2) (q.n+1) a)) (c+1) p (l0++[⟨y.nm,y.zs++r⟩]) l0 ⟨y.nm,y.zs++r⟩ css ⟨some ⟨g2,0,none⟩,q.n+1,a⟩ o cap:=by
 have w:=h.ne;have s:=h.bbB;have f:=me h.row (W':=W') (fun b d=>by cases d;exact j.kept o s.2 w)
 have t:g2≠o:=by
  have u:=ue f m (by decide) (b:=o) rfl
  exact fun e=>u (by rw[e];rfl)
 have g:=Au f 1 (by show 1<2;omega) (.slice (J g2) (q.n+1) a);rw[h.flat]at g;refine⟨rfl,h.ep,h.ecss,h.k,g,⟨rE (by rw[aT];exact m) (fun e=>by cases e;exact t rfl) _ _,(fun b e=>by cases e;exact VS rfl),fun e=>by have:q.n+1=0:=e;omega⟩,by have:=h.qn;show q.n+1<=c+1;omega,fun i x cs h1 h2=>ky.kept (h.rep i x cs h1 h2) (fun b d=>?_) (fun b d=>⟨d.1,?_,?_⟩),VR h.dbb,h.nm⟩
 .exact(iS (fun e=>d.2.2 (by rw[e];exact h.dbb))).trans (j.kept b d.2.1 (fun e=>d.2.2 (h.t9.inD b e)))
 .simpa using ab d.2.1 j.size
 .rintro(e|e)
  .exact d.2.2 e
  .obtain e2|e2:=j.hat
   .exact d.2.2 (h.t9.inD b (by rw[e];exact e2))
   .have:=d.2.1;omega
def xq.snoc{α:Type}{R:pB α}{k:Nat}(ok:kR k R){T:TypeId}{B:Nat}{D:Nat->Prop}{W W':World}{p:iJ}{l:List α}{css:List (List Value)}(h:xq R k T B D W p l css){g2:Nat}(c:nI W W' p.v g2):∀(i:Nat)(x:α)(cs:List Value),l[i]? =some x->css[i]? =some cs->R (fun b=>B<=b/\b<W.heap.size/\b≠g2) W' x cs:=
 fun i x cs h1 h2=>ok.kept (h.rep i x cs h1 h2) (fun b a=>c.kept b a.2.1 a.2.2) (fun b a=>⟨a.1,a.2.1,fun e=>by
  obtain e2|e2:=c.hat
  .exact a.2.2 (by rw[e2,e])
  .have:=a.2.1;omega⟩)
def Bp{B g:Nat}{z:Int}{c:Nat}{D:Nat->Prop}{r:jL}{y W W' q:World}{f v s k:iJ}{m:Value}{css:List (List Value)}{i g2 cap t:Nat}{H:Option jL}(P:H=some ⟨{r.x with l:=r.x.l++[lJ i]},7,[]⟩)(a:Below y y W)(hA:jm W g r.x z f v s k m)(hL:AX B g c D r W f v s k m)
 (hO:xq jE 22 64 B D W s r.x.l css)(hrow:W'.ownsRow B 64 22 (.slice (J g2) (s.n+1) cap) (s.n+1) (css.flatten++gX (lJ i).s none 0 0))(hgr:nI W W' s.v g2)(hg2:B<=g2)(hat:r.at_<=7)(h1:c<=100001)(hg0:B<=y.heap.size)
 (hA2:jm q g r.x z f v ⟨some ⟨g2,0,none⟩,s.n+1,cap⟩ k (.map (some t)))(hm:oC q t [])(hbm:W'.heap.size<=t)(hk2:∀b,b≠g->b<W'.heap.size->q.heap[b]? =W'.heap[b]?)(hbe:Below g W' q):
 iE B g z c D H y (.returned (.tuple #[])) q:=by
 have M:=hL.gB;have hlt:=TK hA
 have L:∀b,(b=g\/b=g2\/b=t)->D b\/y.heap.size<=b:=by
  rintro b (e|e|e)
  .exact VR (by rw[e];exact hL.dg)
  .obtain e2|e2:=hgr.hat
   .exact VR (by rw[e];exact hO.inD g2 e2)
   .exact VS (by have:=a.size;omega)
  .exact VS (by have:=a.size;have:=hgr.size;omega)
 have S:=hbe.size;have R:=hgr.size;have Q:=a.size
 have o:∀b,B<=b->b<W.heap.size->b≠g2->Fz B (fun b=>b=g\/b=g2\/b=t) q b:=fun b h2 h3 K=>⟨h2,by omega,by
  rintro(e|e|e)
  .omega
  .exact K e
  .omega⟩
 have h:∀b,B<=b->b<W.heap.size->s.v.ownBlock≠some b->q.heap[b]? =W.heap[b]? :=fun b h2 h3 K=>(hk2 b (by omega) (by omega)).trans (hgr.kept b h3 K)
 have E:gN (Fz B D W) W q:=fun b a=>h b a.1 a.2.1 (fun e=>a.2.2 (hO.inD b e))
 have F:∀b,Fz B D W b->Fz B (fun b=>b=g\/b=g2\/b=t) q b:=fun b a=>o b a.1 a.2.1 (fun e=>by
  obtain e2|e2:=hgr.hat
  .exact a.2.2 (hO.inD b (by rw[e];exact e2))
  .have:=a.2.1;omega)
 have w:=me hrow (W':=q) (fun b e=>by cases e;exact hk2 g2 (by omega) hgr.lt);refine⟨(a.mono (by omega)).trans ((hgr.below (by omega) (fun b e=>by have:=(gT hO.row e).1;omega)).trans hbe),fun b A C=>?_,VR ⟨_,P,rfl,fun b=>b=g\/b=g2\/b=t,L,⟨f,v,⟨some ⟨g2,0,none⟩,s.n+1,cap⟩,k,.map (some t),hA2,M,by omega,VR rfl,fun b a=>?_,(by dsimp only;omega),(by dsimp only;omega),hL.nm,?_,?_,?_,?_⟩⟩⟩
 .have p:b≠g:=fun e=>C (by rw[e];exact hL.dg)
  have N:b<W.heap.size:=ab A a.size;exact(hk2 b p (by omega)).trans ((hgr.kept b N (fun e=>C (hO.inD b e))).trans (a.block b A))
 .obtain e|e|e:=a
  .exact⟨VR e,by rw[e];omega⟩
  .exact⟨VS (by omega),by have:=hgr.lt;omega⟩
  .exact⟨VS (by omega),by rw[e];exact hm.lt⟩
 .exact hL.fs.close (by dsimp only;omega) (by omega) E F (fun e b u=>by
   have d:=gT (hL.fs.own (by omega)).row u;have p:=ue (hL.fs.own (by omega)).row hO.row (by decide) u
   exact⟨h b d.1 d.2 p,o b d.1 d.2 (fun e=>by
    obtain e2|e2:=hgr.hat
    .exact p (by rw[e2,e])
    .omega)⟩)
 .exact hL.ws.close (by dsimp only;omega) (by omega) E F (fun e b u=>by
   have d:=gT (hL.ws.own (by omega)).row u;have p:=ue (hL.ws.own (by omega)).row hO.row (by decide) u
   exact⟨h b d.1 d.2 p,o b d.1 d.2 (fun e=>by
    obtain e2|e2:=hgr.hat
    .exact p (by rw[e2,e])
    .omega)⟩)
 .refine⟨by have:=hL.l.1;show s.n+1<=c+1;omega,VS (VR ⟨rfl,r.x.l,lJ i,css,ij,g2,cap,t,?_⟩)⟩
  refine⟨rfl,by rw[hO.n],hO.len,hO.k,by rw[<- hO.n];exact w,sT.nil _ _ _ _ _,aA _,fun j x cs h2 h3=>iD.kept (hO.snoc iD hgr j x cs h2 h3) (fun b a=>hk2 b (by omega) (by omega)) (fun b a=>o b a.1 a.2.1 a.2.2),VS (VR rfl),by show(0:Nat)<=_;omega,rfl,hm,VS (VS rfl),by omega⟩
 .exact hL.cf.wait (by omega) (by dsimp only;omega) (by omega)
def DI{B g:Nat}{p:Int}{c:Nat}{D:Nat->Prop}{r:jL}{o W W':World}{f v s k:iJ}{m:Value}{css:List (List Value)}{nm:ByteArray}{g2 cap:Nat}{A:Option jL}(K:A=some ⟨{r.x with cf:=r.x.cf++[⟨nm,[]⟩]},8,[]⟩)(hnm:nm.size<=1000000)(a:Below o o W)(hA:jm W g r.x p f v s k m)(hL:AX B g c D r W f v s k m)
 (hO:xq oB 2 77 B D W k r.x.cf css)(hrow:W'.ownsRow B 77 2 (.slice (J g2) (k.n+1) cap) (k.n+1) (css.flatten++[.string nm,.slice none 0 0]))(hgr:nI W W' k.v g2)(hg2:B<=g2)(hat:r.at_<=8)(h1:c<=100001)(hg0:B<=o.heap.size):
 iE B g p c D A o (.returned (.tuple #[])) (W'.setCell ⟨g,8,none⟩ (.slice (J g2) (k.n+1) cap)):=by
 have z:=hL.gB;have hlt:=TK hA
 have u:k.v.ownBlock≠some g:=fun e=>by have:=(gT hO.row e).1;omega
 have E:jm W' g r.x p f v s k m:=(hgr.kept g hlt u).trans hA
 have F:∀b,(b=g\/b=g2)->D b\/o.heap.size<=b:=by
  rintro b (e|e)
  .exact VR (by rw[e];exact hL.dg)
  .obtain e2|e2:=hgr.hat
   .exact VR (by rw[e];exact hO.inD g2 e2)
   .exact VS (by have:=a.size;omega)
 obtain⟨q,t⟩:=NY z hO.inD hgr;have L:=hgr.size
 have i:∀b,B<=b->b<W.heap.size->k.v.ownBlock≠some b->W'.heap[b]? =W.heap[b]? /\Fz B (fun b=>b=g\/b=g2) W' b:=fun b h2 h3 C=>⟨hgr.kept b h3 C,h2,by omega,by
  rintro(e|e)
  .omega
  .obtain e2|e2:=hgr.hat
   .exact C (by rw[e2,e])
   .omega⟩
 refine⟨kZ ((a.mono (by omega)).trans (hgr.below (by omega) (fun b e=>by have:=(gT hO.row e).1;omega))) (aa _),fun b w y=>?_,VR ⟨_,K,rfl,fun b=>b=g\/b=g2,F,⟨f,v,s,⟨some ⟨g2,0,none⟩,k.n+1,cap⟩,m,?_,?_⟩⟩⟩
 .exact(iS (fun e=>y (by rw[e];exact hL.dg))).trans ((hgr.kept b (ab w a.size) (fun e=>y (hO.inD b e))).trans (a.block b w))
 .exact nJ E rfl
 .have key:AX B g (c+1) (fun b=>b=g\/b=g2) ⟨{r.x with cf:=r.x.cf++[⟨nm,[]⟩]},8,[]⟩ W' f v s ⟨some ⟨g2,0,none⟩,k.n+1,cap⟩ m:=by
   refine⟨z,by omega,VR rfl,fun b a=>?_,(by dsimp only;omega),(by dsimp only;omega),hL.nm,?_,?_,?_,?_⟩
   .obtain e|e:=a
    .exact⟨VR e,by rw[e];omega⟩
    .exact⟨VS (by omega),by have:=hgr.lt;omega⟩
   .exact hL.fs.close (by dsimp only;omega) (by omega) q t (fun e b d=>i b (gT (hL.fs.own (by omega)).row d).1 (gT (hL.fs.own (by omega)).row d).2 (ue (hL.fs.own (by omega)).row hO.row (by decide) d))
   .exact hL.ws.close (by dsimp only;omega) (by omega) q t (fun e b d=>i b (gT (hL.ws.own (by omega)).row d).1 (gT (hL.ws.own (by omega)).row d).2 (ue (hL.ws.own (by omega)).row hO.row (by decide) d))
   .refine hL.l.close (by show(7:Int) <8;decide) (by omega) (by omega) q t (fun e b h2 h3=>i b h2 h3 ?_)
    have H:k=ij:=by
     obtain ⟨_,h,_⟩|⟨h,_⟩|⟨h,_⟩:=hL.cf.2
     .exact h
     .omega
     .omega
    rw[H];intro e;cases e
   .refine⟨by have:=hL.cf.1;show k.n+1<=c+1;omega,VS (VR ⟨rfl,r.x.cf,⟨nm,[]⟩,css,ij,g2,cap,?_⟩)⟩
    exact⟨rfl,by rw[hO.n],hO.len,hO.k,by rw[<- hO.n];exact hrow,sT.nil _ _ _ _ _,aA _,fun j x cs h2 h3=>ky.kept (hO.snoc ky hgr j x cs h2 h3) (gN.refl _ _) (fun b a=>⟨a.1,by omega,by
     rintro(e|e)
     .have:=a.1;omega
     .exact a.2.2 e⟩),VS rfl,hnm⟩
  exact key.keep (fun b a _=>iS (by omega)) (by simp)
def my.mapSet{B:Nat}{D:Nat->Prop}{W W':World}{c:Nat}{p:iJ}{m:Value}{l:List gM}{seen d:List (List UInt8)}{l0:List gM}{y:gM}{css:List (List Value)}{q:iJ}{g cap f:Nat}(h:my B D W c p m l seen l0 y css q g cap f)(j:∀b,b<W.heap.size->b≠f->W'.heap[b]? =W.heap[b]?)(r:W.heap.size<=W'.heap.size)(o:oC W' f (d.map bs)):my B D W' c p m l d l0 y css q g cap f:=by
 obtain⟨u,s,t⟩:=h.ne;have n:=h.bbB
 exact⟨h.el,h.ep,h.ecss,h.k,me h.row (fun b a=>by cases a;exact j g n.2 (fun e=>s e.symm)),h.t9.keep (fun b a=>j b (gT h.t9.row a).2 (fun e=>t (by rw[a,e]))) h.t9.inD,h.qn,
  fun i x cs h1 h2=>iD.kept (h.rep i x cs h1 h2) (fun b a=>j b a.2.1 (fun e=>a.2.2 (by rw[e];exact h.dbm))) (fun b a=>⟨a.1,ab a.2.1 r,a.2.2⟩),h.dbb,h.e9,h.em,o,h.dbm,h.bmB⟩
def my.succ{B:Nat}{D:Nat->Prop}{W:World}{c:Nat}{p:iJ}{m:Value}{l:List gM}{seen:List (List UInt8)}{l0:List gM}{y:gM}{css:List (List Value)}{q:iJ}{a cap b:Nat}(h:my B D W c p m l seen l0 y css q a cap b):my B D W (c+1) p m l seen l0 y css q a cap b:=
 ⟨h.el,h.ep,h.ecss,h.k,h.row,h.t9,by have:=h.qn;omega,h.rep,h.dbb,h.e9,h.em,h.map,h.dbm,h.bmB⟩
def xr{B g c:Nat}{D:Nat->Prop}{r:jL}{d W:World}{f v s k:iJ}{m:Value}{l0:List gM}{y:gM}{css:List (List Value)}{q:iJ}{j cap o off:Nat}{u:Value}{s2:gW}{w:List UInt8}{A:Option jL}(K:A=some ⟨{r.x with l:=l0++[⟨s2,y.zs⟩]},7,r.seen++[w]⟩)(hat:r.at_=7)(hA:jm d g r.x 7 f v s k m)(hL:AX B g c D r d f v s k m)
 (hS:my B D d c s m r.x.l r.seen l0 y css q j cap o)(hk:∀b,b<d.heap.size->b≠o->W.heap[b]? =d.heap[b]?)(hbe:Below B d W)(hm:oC W o ((r.seen++[w]).map bs))(hoff:off<22)
 (hset:(gX y.s q.a q.n q.c).set off u=gX s2 q.a q.n q.c)(hgl:s2.e9.size<=1000000)(h1:c<=100001):
 iE B g 7 c D A d (.returned (.tuple #[])) (W.setCell ⟨j,l0.length*22+off,none⟩ u):=by
 have H:=hL.gB;have F:=hS.bbB;have L:=hS.bmB;have hlt:=TK hA;have C:=hbe.size;have E:=((hS.mapSet hk C hm).store hoff hset hgl).succ
 have z:∀b,b<d.heap.size-> ¬D b->(W.setCell ⟨j,l0.length*22+off,none⟩ u).heap[b]? =d.heap[b]? :=fun b h2 h3=>(iS (fun e=>h3 (by rw[e];exact hS.dbb))).trans (hk b h2 (fun e=>h3 (by rw[e];exact hS.dbm)))
 have p:gN (Fz B D d) d (W.setCell ⟨j,l0.length*22+off,none⟩ u):=fun b i=>z b i.2.1 i.2.2
 have t:∀b,Fz B D d b->Fz B D (W.setCell ⟨j,l0.length*22+off,none⟩ u) b:=fun b i=>⟨i.1,by simpa using ab i.2.1 C,i.2.2⟩
 refine⟨(kZ hbe F.1).mono (by omega),z,VR ⟨_,K,rfl,D,fun b h=>VR h,f,v,s,k,m,?_,H,by omega,hL.dg,fun b i=>⟨(hL.own b i).1,by simpa using ab (hL.own b i).2 C⟩,(by dsimp only;omega),(by dsimp only;omega),hL.nm,?_,?_,?_,?_⟩⟩
 .exact(iS (by omega)).trans ((hk g hlt (by omega)).trans hA)
 .exact hL.fs.close (by dsimp only;omega) (by omega) p t (fun e=>by omega)
 .exact hL.ws.close (by dsimp only;omega) (by omega) p t (fun e=>by omega)
 .exact⟨by have:=hL.l.1;omega,VS (VR ⟨rfl,l0,_,css,q,j,cap,o,E⟩)⟩
 .exact hL.cf.wait (by omega) (by show(7:Int) <8;decide) (by omega)
def ID{B g c:Nat}{D:Nat->Prop}{r:jL}{j W W':World}{f v s k:iJ}{m:Value}{l0:List gM}{y:gM}{css:List (List Value)}{q:iJ}{i cap A g2 d:Nat}{F:List Int}{z:Option jL}(H:z=some ⟨{r.x with l:=l0++[⟨y.s,y.zs++F⟩]},7,r.seen⟩)(hat:r.at_=7)(a:Below j j W)(hA:jm W g r.x 7 f v s k m)(hL:AX B g c D r W f v s k m)
 (hS:my B D W c s m r.x.l r.seen l0 y css q i cap A)(hrow:W'.ownsRow B 70 3 (.slice (J g2) (q.n+1) d) (q.n+1) (y.zs.map (Value.int .i64)++F.map (Value.int .i64)))(hgr:nI W W' q.v g2)(hg2:B<=g2)(hg0:B<=j.heap.size)(h1:c<=100001):
 iE B g 7 c D z j (.returned (.tuple #[])) (W'.setCell ⟨i,l0.length*22+21,none⟩ (.slice (J g2) (q.n+1) d)):=by
 have E:=hL.gB;have K:=hS.bbB;have hlt:=TK hA;have w:=hgr.size;have L:=a.size
 have o:q.v.ownBlock≠some g:=fun e=>by have:=(gT hS.t9.row e).1;omega
 have C:=hS.film hrow hgr
 have u:∀b,b<W.heap.size-> ¬D b->(W'.setCell ⟨i,l0.length*22+21,none⟩ (.slice (J g2) (q.n+1) d)).heap[b]? =W.heap[b]? :=fun b h2 h3=>(iS (fun e=>h3 (by rw[e];exact hS.dbb))).trans (hgr.kept b h2 (fun e=>h3 (hS.t9.inD b e)))
 have p:gN (Fz B D W) W (W'.setCell ⟨i,l0.length*22+21,none⟩ (.slice (J g2) (q.n+1) d)):=fun b a=>u b a.2.1 a.2.2
 have t:∀b,Fz B D W b->Fz B (fun b=>D b\/b=g2) (W'.setCell ⟨i,l0.length*22+21,none⟩ (.slice (J g2) (q.n+1) d)) b:=fun b a=>⟨a.1,by simpa using ab a.2.1 w,by
  rintro(e|e)
  .exact a.2.2 e
  .obtain e2|e2:=hgr.hat
   .exact a.2.2 (hS.t9.inD b (by rw[e];exact e2))
   .have:=a.2.1;omega⟩
 refine⟨(a.mono (by omega)).trans (kZ (hgr.below (g:=g) (by omega) (fun b e=>by have:=(gT hS.t9.row e).1;omega)) (by omega)),fun b h2 h3=>(u b (by omega) h3).trans (a.block b h2),VR ⟨_,H,rfl,fun b=>D b\/b=g2,fun b h=>?_,f,v,s,k,m,?_,E,by omega,VR hL.dg,fun b a=>?_,(by dsimp only;omega),(by dsimp only;omega),hL.nm,?_,?_,?_,?_⟩⟩
 .obtain h|h:=h
  .exact VR h
  .obtain e2|e2:=hgr.hat
   .exact VR (hS.t9.inD b (by rw[h];exact e2))
   .exact VS (by omega)
 .exact(iS (by omega)).trans ((hgr.kept g hlt o).trans hA)
 .obtain a|a:=a
  .exact⟨(hL.own b a).1,by simpa using ab (hL.own b a).2 w⟩
  .exact⟨VS (by omega),by have:=hgr.lt;simp;omega⟩
 .exact hL.fs.close (by dsimp only;omega) (by omega) p t (fun e=>by omega)
 .exact hL.ws.close (by dsimp only;omega) (by omega) p t (fun e=>by omega)
 .exact⟨by have:=hL.l.1;omega,VS (VR ⟨rfl,l0,_,css,_,i,cap,A,C⟩)⟩
 .exact hL.cf.wait (by omega) (by show(7:Int) <8;decide) (by omega)
def DJ{B g c:Nat}{D:Nat->Prop}{r:jL}{p W W':World}{f v s k:iJ}{m:Value}{l0:List jd}{y:jd}{css:List (List Value)}{q:iJ}{i cap g2 d:Nat}{E:List Int}{z:Option jL}(F:z=some ⟨{r.x with cf:=l0++[⟨y.nm,y.zs++E⟩]},8,r.seen⟩)(hat:r.at_=8)(a:Below p p W)(hA:jm W g r.x 8 f v s k m)(hL:AX B g c D r W f v s k m)
 (hS:qL B D W c k r.x.cf l0 y css q i cap)(hrow:W'.ownsRow B 74 3 (.slice (J g2) (q.n+1) d) (q.n+1) (y.zs.map (Value.int .i64)++E.map (Value.int .i64)))(hgr:nI W W' q.v g2)(hg2:B<=g2)(hg0:B<=p.heap.size)(h1:c<=100001):
 iE B g 8 c D z p (.returned (.tuple #[])) (W'.setCell ⟨i,l0.length*2+1,none⟩ (.slice (J g2) (q.n+1) d)):=by
 have C:=hL.gB;have H:=hS.bbB;have hlt:=TK hA;have w:=hgr.size;have K:=a.size
 have t:q.v.ownBlock≠some g:=fun e=>by have:=(gT hS.t9.row e).1;omega
 have A:=hS.film hrow hgr
 have u:∀b,b<W.heap.size-> ¬D b->(W'.setCell ⟨i,l0.length*2+1,none⟩ (.slice (J g2) (q.n+1) d)).heap[b]? =W.heap[b]? :=fun b h2 h3=>(iS (fun e=>h3 (by rw[e];exact hS.dbb))).trans (hgr.kept b h2 (fun e=>h3 (hS.t9.inD b e)))
 have j:gN (Fz B D W) W (W'.setCell ⟨i,l0.length*2+1,none⟩ (.slice (J g2) (q.n+1) d)):=fun b a=>u b a.2.1 a.2.2
 have o:∀b,Fz B D W b->Fz B (fun b=>D b\/b=g2) (W'.setCell ⟨i,l0.length*2+1,none⟩ (.slice (J g2) (q.n+1) d)) b:=fun b a=>⟨a.1,by simpa using ab a.2.1 w,by
  rintro(e|e)
  .exact a.2.2 e
  .obtain e2|e2:=hgr.hat
   .exact a.2.2 (hS.t9.inD b (by rw[e];exact e2))
   .have:=a.2.1;omega⟩
 refine⟨(a.mono (by omega)).trans (kZ (hgr.below (g:=g) (by omega) (fun b e=>by have:=(gT hS.t9.row e).1;omega)) (by omega)),fun b h2 h3=>(u b (by omega) h3).trans (a.block b h2),VR ⟨_,F,rfl,fun b=>D b\/b=g2,fun b h=>?_,f,v,s,k,m,?_,C,by omega,VR hL.dg,fun b a=>?_,(by dsimp only;omega),(by dsimp only;omega),hL.nm,?_,?_,?_,?_⟩⟩
 .obtain h|h:=h
  .exact VR h
  .obtain e2|e2:=hgr.hat
   .exact VR (hS.t9.inD b (by rw[h];exact e2))
   .exact VS (by omega)
 .exact(iS (by omega)).trans ((hgr.kept g hlt t).trans hA)
 .obtain a|a:=a
  .exact⟨(hL.own b a).1,by simpa using ab (hL.own b a).2 w⟩
  .exact⟨VS (by omega),by have:=hgr.lt;simp;omega⟩
 .exact hL.fs.close (by dsimp only;omega) (by omega) j o (fun e=>by omega)
 .exact hL.ws.close (by dsimp only;omega) (by omega) j o (fun e=>by omega)
 .exact hL.l.close (by show(7:Int) <8;decide) (by omega) (by omega) j o (fun e=>by omega)
 .exact⟨by have:=hL.cf.1;omega,VS (VR ⟨rfl,l0,_,css,_,i,cap,A⟩)⟩
def Wk(x u:gR)(f v s k f' v' s' k':iJ)(w:World)(hx:iP (fun b=>b<w.heap.size) w x f v s k)(B:iP (fun b=>b<w.heap.size) w u f' v' s' k')(D:Bool)(hT:x=u->D=true)(hF:¬x=u->D=false):
 Calls prog 15 #[jG x f v s k,jG u f' v' s' k'] w (iZ w (.bool D)):=by
 obtain⟨fa,fn,fc⟩:=f;obtain⟨va,r,vc⟩:=v;obtain⟨sa,sn,sc⟩:=s;obtain⟨ka,kn,kc⟩:=k;obtain⟨a0,R,a1⟩:=f';obtain⟨a7,X,a8⟩:=v';obtain⟨a5,T,a6⟩:=s';obtain⟨C,n,E⟩:=k';have lf:x.fs.length=fn*2:=hx.fs.1;have f9:u.fs.length=R*2:=B.fs.1;have lv:x.ws.length=r*2:=hx.ws.1;have g9:u.ws.length=X*2:=B.ws.1;have ls:x.l.length=sn:=hx.l.1;have g8:u.l.length=T:=B.l.1;have M:=O (show(x.fs.length=fn*2/\u.fs.length=R*2)/\(x.ws.length=r*2/\u.ws.length=X*2)/\(x.l.length=sn/\u.l.length=T)from⟨⟨lf,f9⟩,⟨lv,g9⟩,ls,g8⟩);clear lf f9 lv g9 ls g8;have i8:fn<=1000000:=hx.fn;have j4:r<=1000000:=hx.wn;have j3:sn<=1000000:=hx.sn;have e5:kn<=1000000:=hx.kn;have i2:R<=1000000:=B.fn;have i5:X<=1000000:=B.wn;have i3:T<=1000000:=B.sn;have b8:n<=1000000:=B.kn;have HT:=O hT;have HF:=O hF;clear hT hF;obtain⟨e1,e2⟩:=iN w (.cells (iw x ⟨fa,fn,fc⟩ ⟨va,r,vc⟩ ⟨sa,sn,sc⟩ ⟨ka,kn,kc⟩).toArray 38) (.cells (iw u ⟨a0,R,a1⟩ ⟨a7,X,a8⟩ ⟨a5,T,a6⟩ ⟨C,n,E⟩).toArray 38);have c:=O (iH (w:=w) (.cells (iw x ⟨fa,fn,fc⟩ ⟨va,r,vc⟩ ⟨sa,sn,sc⟩ ⟨ka,kn,kc⟩).toArray 38) (.cells (iw u ⟨a0,R,a1⟩ ⟨a7,X,a8⟩ ⟨a5,T,a6⟩ ⟨C,n,E⟩).toArray 38));have Hx:=O hx;have Hy:=O B;have E1:=O e1;have E2:=O e2;clear hx B e1 e2;unfold jG;go_enter func15,ntmps15;go_upto_region 1 with fail;refine gI (fun wx=>hU wx w 38 x ⟨fa,fn,fc⟩ ⟨va,r,vc⟩ ⟨sa,sn,sc⟩ ⟨ka,kn,kc⟩/\hU wx (w+1) 38 u ⟨a0,R,a1⟩ ⟨a7,X,a8⟩ ⟨a5,T,a6⟩ ⟨C,n,E⟩/\Below w w wx) ⟨E1,E2,c⟩ ?_;clear E1 E2 c;rintro w1 ⟨h1,h2,N⟩;have P:=h1.lt;have Q:=h2.lt;obtain⟨c0,c1,c2,c3,c4,c5,c6,c7,c8⟩:=h1.cells;obtain⟨d0,d1,d2,d3,d4,d5,d6,d7,d8⟩:=h2.cells;have z:=O h1;have A:=O h2;have c:=O N;clear h1 h2 N;by_cases d:x.nm=u.nm
 case neg=>
  have a:=O (HF (fun h=>d (by rw[h])))
  have i7:¬x.nm.toList=u.nm.toList:=fun h=>d (WI h)
  go_wp2;go_ret;exact⟨by rw[a];rfl,c⟩
 have f0:=d;clear d;by_cases d:x.i9=u.i9
 case neg=>
  have a:=O (HF (fun h=>d (by rw[h])));go_wp2;go_ret;exact⟨by rw[a];rfl,c⟩
 have f1:=d;clear d;by_cases d:x.p9=u.p9
 case neg=>
  have a:=O (HF (fun h=>d (by rw[h])));go_wp2;go_ret;exact⟨by rw[a];rfl,c⟩
 have f2:=d;clear d;by_cases d:x.stop=u.stop
 case neg=>
  have a:=O (HF (fun h=>d (by rw[h])));go_wp2;go_ret;exact⟨by rw[a];rfl,c⟩
 have f3:=d;clear d;by_cases d:x.i4=u.i4
 case neg=>
  have a:=O (HF (fun h=>d (by rw[h])));go_wp2;go_ret;exact⟨by rw[a];rfl,c⟩
 have f4:=d;clear d;by_cases d:x.cf=u.cf
 case neg=>
  have a:=O (HF (fun h=>d (by rw[h])))
  have g:∀W,Below w w W->Calls prog 41 #[Z ka kn kc,Z C n E] W (iZ W (.bool false)):=fun W hW=>by
   have:=WE x.cf u.cf ka C kn kc n E W ((Hx.go hW).cf) ((Hy.go hW).cf) e5 b8;rw[aw d]at this;exact this
  have H:=O g;clear g
  go_wp2_with((with_reducible refine(H.out _ c.out).mono ?_);rintro e w2 ⟨rfl,b4⟩;have a9:=O b4;clear b4)
  go_ret;exact⟨by rw[a];rfl,I c a9⟩
 have g:∀W,Below w w W->Calls prog 41 #[Z ka kn kc,Z C n E] W (iZ W (.bool true)):=fun W hW=>by
  have:=WE x.cf u.cf ka C kn kc n E W ((Hx.go hW).cf) ((Hy.go hW).cf) e5 b8;rw[aP d]at this;exact this
 have H:=O g;have F5:=O d;clear g d
 go_upto_region 3 with((with_reducible refine(H.out _ c.out).mono ?_);rintro e w2 ⟨rfl,b4⟩;have a9:=O b4;clear b4)
 have F:=O (show x.nm=u.nm/\x.i9=u.i9/\x.p9=u.p9/\x.stop=u.stop/\x.i4=u.i4/\x.cf=u.cf from⟨f0,f1,f2,f3,f4,F5⟩);refine gI (fun wx=>hU wx w 38 x ⟨fa,fn,fc⟩ ⟨va,r,vc⟩ ⟨sa,sn,sc⟩ ⟨ka,kn,kc⟩/\hU wx (w+1) 38 u ⟨a0,R,a1⟩ ⟨a7,X,a8⟩ ⟨a5,T,a6⟩ ⟨C,n,E⟩/\Below w w wx) ⟨z.go a9,A.go a9,I c a9⟩ ?_;clear f0 f1 f2 f3 f4 F5 H z A c a9 P Q c0 c1 c2 c3 c4 c5 c6 c7 c8 d0 d1 d2 d3 d4 d5 d6 d7 d8;rintro w3 ⟨h1,h2,N⟩;have P:=h1.lt;have Q:=h2.lt;obtain⟨-,-,-,-,-,c5,c6,c7,-⟩:=h1.cells;obtain⟨-,-,-,-,-,d5,d6,d7,-⟩:=h2.cells;have z:=O h1;have A:=O h2;have c:=O N;clear h1 h2 N;by_cases ef:fn=R
 case neg=>
  have a:=O (HF (fun h=>ef (by have h1:=M.1.1;have h2:=M.1.2;rw[h]at h1;omega)));go_wp2;go_ret;exact⟨by rw[a];rfl,c⟩
 subst ef;by_cases ev:r=X
 case neg=>
  have a:=O (HF (fun h=>ev (by have h1:=M.2.1.1;have h2:=M.2.1.2;rw[h]at h1;omega)));go_wp2;go_ret;exact⟨by rw[a];rfl,c⟩
 subst ev;by_cases es:sn=T
 case neg=>
  have a:=O (HF (fun h=>es (by have h1:=M.2.2.1;have h2:=M.2.2.2;rw[h]at h1;omega)));go_wp2;go_ret;exact⟨by rw[a];rfl,c⟩
 subst es;go_wp2
 go_loopw [5] (fun iv wr=>∃i:Nat,i<=fn/\iv=.int .i64 (i:Int)/\(∀t,t<i*2->x.fs.getD t 0=u.fs.getD t 0)/\hU wr w 38 x ⟨fa,fn,fc⟩ ⟨va,r,vc⟩ ⟨sa,sn,sc⟩ ⟨ka,kn,kc⟩/\hU wr (w+1) 38 u ⟨a0,fn,a1⟩ ⟨a7,r,a8⟩ ⟨a5,sn,a6⟩ ⟨C,n,E⟩/\Below w w wr) (fun iv _=>fn-(intOf iv).toNat)
 case atStart=>exact⟨0,aA _,rfl,fun t ht=>by omega,z,A,c⟩
 case round=>
  clear z A c P Q c5 c6 c7 d5 d6 d7;obtain⟨i,j0,rfl,e7,h1,h2,N⟩:=hrel;have Pf:=O e7;clear e7;have P:=h1.lt;have Q:=h2.lt;obtain⟨-,-,-,-,-,c5,c6,c7,-⟩:=h1.cells;obtain⟨-,-,-,-,-,d5,d6,d7,-⟩:=h2.cells;have z:=O h1;have A:=O h2;have c:=O N;clear h1 h2 N;by_cases b6:i<fn
  .obtain⟨b1,o1,q,l1,x0,x1⟩:=((Hx.go c).fs.ir (fun _ h=>h)).at2 b6
   obtain⟨b2,o2,g2,l2,y0,y1⟩:=((Hy.go c).fs.ir (fun _ h=>h)).at2 b6;simp only at q g2;subst q g2;generalize hp0:x.fs.getD (i*2) 0=p0 at*;generalize hp1:x.fs.getD (i*2+1) 0=p1 at*;generalize hq0:u.fs.getD (i*2) 0=q0 at*;generalize hq1:u.fs.getD (i*2+1) 0=q1 at*;have b3:=O (show(x.fs.getD (i*2) 0=p0/\x.fs.getD (i*2+1) 0=p1)/\(u.fs.getD (i*2) 0=q0/\u.fs.getD (i*2+1) 0=q1)from⟨⟨hp0,hp1⟩,hq0,hq1⟩);clear hp0 hp1 hq0 hq1;by_cases he:p0=q0/\p1=q1
   .obtain⟨rfl,rfl⟩:=he
    go_wp2_with fail
    go_quiet (fail)
    go_wp2
    go_roundw
    case rel=>
     refine⟨i+1,by omega,by go_num,fun t ht=>?_,z.go (gV (TH _ _) _),A.go (gV (TH _ _) _),gV c _⟩;obtain⟨⟨g0,q⟩,g3,g4⟩:=b3;by_cases e0:t<i*2
     .exact Pf t e0
     .obtain rfl|rfl:t=i*2\/t=i*2+1:=by omega
      .rw[g0,g3]
      .rw[q,g4]
    case measure=>simp[intOf];omega
   .have a:=O (HF (fun h=>he (by obtain⟨⟨g0,q⟩,g3,g4⟩:=b3;rw[h]at g0 q;exact⟨g0.symm.trans g3,q.symm.trans g4⟩)))
    by_cases h0:p0=q0
    .have h1:¬p1=q1:=fun h=>he ⟨h0,h⟩
     subst h0;clear he;go_wp2_with fail
     go_quiet (fail)
     go_wp2;go_ret;exact⟨by rw[a];rfl,gV c _⟩
    .clear he
     go_wp2_with fail
     go_quiet (fail)
     go_wp2;go_ret;exact⟨by rw[a];rfl,gV c _⟩
  .obtain rfl:fn=i:=by omega
   have Ef:=O (Ww (M.1.1.trans M.1.2.symm) (fun t ht=>Pf t (by rw[<- M.1.1];exact ht)));clear Pf;go_wp2
   go_loopw [6] (fun iv wr=>∃i:Nat,i<=r/\iv=.int .i64 (i:Int)/\(∀t,t<i*2->x.ws.getD t 0=u.ws.getD t 0)/\hU wr w 38 x ⟨fa,fn,fc⟩ ⟨va,r,vc⟩ ⟨sa,sn,sc⟩ ⟨ka,kn,kc⟩/\hU wr (w+1) 38 u ⟨a0,fn,a1⟩ ⟨a7,r,a8⟩ ⟨a5,sn,a6⟩ ⟨C,n,E⟩/\Below w w wr) (fun iv _=>r-(intOf iv).toNat)
   case atStart=>exact⟨0,aA _,rfl,fun t ht=>by omega,z,A,c⟩
   case round=>
    clear z A c P Q c5 c6 c7 d5 d6 d7;obtain⟨j,j1,rfl,e8,h1,h2,N⟩:=hrel;have Pv:=O e8;clear e8;have P:=h1.lt;have Q:=h2.lt;obtain⟨-,-,-,-,-,-,c6,c7,-⟩:=h1.cells;obtain⟨-,-,-,-,-,-,d6,d7,-⟩:=h2.cells;have z:=O h1;have A:=O h2;have c:=O N;clear h1 h2 N;by_cases b7:j<r
    .obtain⟨b1,o1,q,l1,x0,x1⟩:=((Hx.go c).ws.ir (fun _ h=>h)).at2 b7
     obtain⟨b2,o2,g2,l2,y0,y1⟩:=((Hy.go c).ws.ir (fun _ h=>h)).at2 b7;simp only at q g2;subst q g2;generalize hp0:x.ws.getD (j*2) 0=p0 at*;generalize hp1:x.ws.getD (j*2+1) 0=p1 at*;generalize hq0:u.ws.getD (j*2) 0=q0 at*;generalize hq1:u.ws.getD (j*2+1) 0=q1 at*;have b3:=O (show(x.ws.getD (j*2) 0=p0/\x.ws.getD (j*2+1) 0=p1)/\(u.ws.getD (j*2) 0=q0/\u.ws.getD (j*2+1) 0=q1)from⟨⟨hp0,hp1⟩,hq0,hq1⟩);clear hp0 hp1 hq0 hq1;by_cases he:p0=q0/\p1=q1
     .obtain⟨rfl,rfl⟩:=he
      go_wp2_with fail
      go_quiet (fail)
      go_wp2
      go_roundw
      case rel=>
       refine⟨j+1,by omega,by go_num,fun t ht=>?_,z.go (gV (TH _ _) _),A.go (gV (TH _ _) _),gV c _⟩;obtain⟨⟨g0,q⟩,g3,g4⟩:=b3;by_cases e0:t<j*2
       .exact Pv t e0
       .obtain rfl|rfl:t=j*2\/t=j*2+1:=by omega
        .rw[g0,g3]
        .rw[q,g4]
      case measure=>simp[intOf];omega
     .have a:=O (HF (fun h=>he (by obtain⟨⟨g0,q⟩,g3,g4⟩:=b3;rw[h]at g0 q;exact⟨g0.symm.trans g3,q.symm.trans g4⟩)))
      by_cases h0:p0=q0
      .have h1:¬p1=q1:=fun h=>he ⟨h0,h⟩
       subst h0;clear he;go_wp2_with fail
       go_quiet (fail)
       go_wp2;go_ret;exact⟨by rw[a];rfl,gV c _⟩
      .clear he
       go_wp2_with fail
       go_quiet (fail)
       go_wp2;go_ret;exact⟨by rw[a];rfl,gV c _⟩
    .obtain rfl:r=j:=by omega
     have Ev:=O (Ww (M.2.1.1.trans M.2.1.2.symm) (fun t ht=>Pv t (by rw[<- M.2.1.1];exact ht)));clear Pv;go_wp2
     go_loopw [7] (fun iv wr=>∃i:Nat,i<=sn/\iv=.int .i64 (i:Int)/\(∀t,t<i->x.l[t]? =u.l[t]?)/\hU wr w 38 x ⟨fa,fn,fc⟩ ⟨va,r,vc⟩ ⟨sa,sn,sc⟩ ⟨ka,kn,kc⟩/\hU wr (w+1) 38 u ⟨a0,fn,a1⟩ ⟨a7,r,a8⟩ ⟨a5,sn,a6⟩ ⟨C,n,E⟩/\Below w w wr) (fun iv _=>sn-(intOf iv).toNat)
     case atStart=>exact⟨0,aA _,rfl,fun t ht=>by omega,z,A,c⟩
     case round=>
      clear z A c P Q c6 c7 d6 d7;obtain⟨m,j2,rfl,e9,h1,h2,N⟩:=hrel;have Ps:=O e9;clear e9;have P:=h1.lt;have Q:=h2.lt;obtain⟨-,-,-,-,-,-,-,c7,-⟩:=h1.cells;obtain⟨-,-,-,-,-,-,-,d7,-⟩:=h2.cells;have z:=O h1;have A:=O h2;have c:=O N;clear h1 h2 N;by_cases e6:m<sn
      .obtain⟨b1,o1,y,cs,e1,l1,b9,⟨a2,n2,c2,rfl,f7,h9,-,-⟩,f5⟩:=(Hx.go c).l.at e6
       obtain⟨b2,o2,y',i6,e2,l2,e4,⟨a3,n3,c3,rfl,f8,i0,-,-⟩,f6⟩:=(Hy.go c).l.at e6;simp only at e1 e2;subst e1 e2;have h5:=O (show¬y=y'->D=false from fun h=>HF (fun e=>h (by rw[e,e4]at b9;exact(aE b9).symm)));have h3:=O (show y=y'->x.l[m]? =u.l[m]? from fun h=>by rw[b9,e4,h]);have c9:=O f5;have d9:=O f6;have h7:=O (f7.ir (fun _ h=>h));have h8:=O (f8.ir (fun _ h=>h));clear f5 f6 f7 f8 b9 e4;go_upto_region 18 with fail;refine ic 12 [11] [] [(0,true),(1,true),(2,true),(3,true),(4,true),(5,true),(6,true),(7,true),(8,true),(9,true),(10,false),(11,true)] (by kernel_rfl) (by kernel_rfl) ⟨by simp,by simp,fun _ h=>by cases h⟩ (fun _ _ _ _ _ h=>h) (fun _ _ o _ _ h=>by cases o<;>exact h) ?_
       iterate 4
        refine gZ (v:=?_) ?_ ?_;rotate_left
        .intro y B
         have z0:=(B.cell (p:=⟨w.heap.size,7,none⟩) P).trans c7;go_simp;with_reducible rfl
        try simp only[V]
       refine pE rfl rfl (by rfl) (fun y B=>jb c9 (gE (gJ (k:=1) B)) l1) _ rfl rfl ?_;try simp only[V]
       iterate 4
        refine gZ (v:=?_) ?_ ?_;rotate_left
        .intro y B
         have z0:=(B.cell (p:=⟨w.heap.size+1,7,none⟩) Q).trans d7;go_simp;with_reducible rfl
        try simp only[V]
       refine pE rfl rfl (by rfl) (fun y B=>jb d9 (gE (gJ (k:=1) B)) l2) _ rfl rfl ?_;(try simp only[V]);refine iK (fun xa e3 K hK=>?_);go_simp;have L:Below wr wr xa:=gJ (k:=1) e3;have b0:=Xf y.s y'.s y.zs y'.zs a2 a3 n2 c2 n3 c3 xa (h7.go L) (h8.go L) h9 i0;by_cases S:y.s=y'.s/\y.zs=y'.zs
       .rw[aP S]at b0
        have h6:=O (h3 (by cases y;cases y';simp only at S;rw[S.1,S.2]));refine b0.mono ?_;rintro e wb ⟨rfl,a4⟩;refine hK _ _ a4 ?_;clear hK K b0 S
        iterate 1
         refine iy (v:=?_) ?_ ?_;rotate_left
         .intro y
          go_simp;with_reducible rfl
         try simp only[V]
        refine jV (l:=[]) rfl (fun w4 b5=>?_);(try simp only[V]);have h4:Below wr wr w4:=I L (I a4 b5);have L1:=O (z.go h4);have L2:=O (A.go h4);have Lb:=O (I c h4);clear e3 L a4 b5 h4 z A c c9 d9 c7 d7;go_wp2
        go_roundw
        case rel=>
         refine⟨m+1,by omega,by go_num,fun t ht=>?_,L1,L2,Lb⟩;by_cases i1:t<m
         .exact Ps t i1
         .obtain rfl:t=m:=by omega
          exact h6
        case measure=>simp[intOf];omega
       .rw[aw S]at b0
        have a:=O (h5 (fun h=>S ⟨by rw[h],by rw[h]⟩));refine b0.mono ?_;rintro e wb ⟨rfl,a4⟩;refine hK _ _ a4 ?_;clear hK K b0 S
        iterate 1
         refine iy (v:=?_) ?_ ?_;rotate_left
         .intro y
          go_simp;with_reducible rfl
         try simp only[V]
        refine jV (l:=[]) rfl (fun w4 b5=>?_);(try simp only[V]);have Lb:=O (I c (I L (I a4 b5)));clear e3 L a4 b5 z A c c9 d9 c7 d7;go_wp2;go_ret;exact⟨by rw[a];rfl,Lb⟩
      .obtain rfl:sn=m:=by omega
       have Es:=WU M.2.2.1 M.2.2.2 Ps
       have a:=O (HT (by
        obtain⟨g0,q,g2,g3,g4,g5⟩:=F;have g6:=Ef.out;have g7:=Ev.out;cases x;cases u;simp only at g0 q g2 g3 g4 g5 g6 g7 Es;subst g0 q g2 g3 g4 g5 g6 g7 Es
        rfl))
       clear Es;go_wp2;go_ret;exact⟨by rw[a];rfl,c⟩
def xw(x:gR)(f v s k a c s' k':iJ)(w:World)(d:iP (fun b=>b<w.heap.size) w x f v s k)(e:iP (fun b=>b<w.heap.size) w x a c s' k'):
 Calls prog 15 #[jG x f v s k,jG x a c s' k'] w (iZ w (.bool true)):=
 Wk x x f v s k a c s' k' w d e true (fun _=>rfl) (fun h=>absurd rfl h)
def lF{ws:List (List UInt8)}{e:Ending}(h:JL ws e):(∃v,ws=[v]/\e=.returned (.string (bs v)))\/(ws.length≠1/\e=iX):=by
 match ws,h with
 |[],h=>exact VS ⟨by simp,h⟩
 |[v],h=>exact VR ⟨v,rfl,h⟩
 |v::u::r,h=>exact VS ⟨by simp,h⟩
def oX{x:gR}{k:Nat}{ws:List (List UInt8)}(a:k<5\/k=7\/k=8)(h:ws.length≠1):jk x k ws=none:=by
 match ws,h with
 |[],_=>obtain a|rfl|rfl:=a
        .match k,a with
         |0,_=>rfl
         |1,_=>rfl
         |2,_=>rfl
         |3,_=>rfl
         |4,_=>rfl
         |k+5,a=>omega
        .rfl
        .rfl
 |[v],h=>simp at h
 |v::u::r,_=>obtain a|rfl|rfl:=a
             .match k,a with
              |0,_=>rfl
              |1,_=>rfl
              |2,_=>rfl
              |3,_=>rfl
              |4,_=>rfl
              |k+5,a=>omega
             .rfl
             .rfl
def xt(x:gR)(v:List UInt8):jk x 1 [v]=if v=lQ then some x else(VZ v 6).map fun n=>{x with i9:=n}:=rfl
def la{x:gR}{k:Nat}{ws:List (List UInt8)}(h:jk x k ws=none):((jk x k ws).map fun y=>(⟨y,(k:Int),[]⟩:jL))=none:=by rw[h];rfl
def map_some{x y:gR}{k:Nat}{ws:List (List UInt8)}(h:jk x k ws=some y):((jk x k ws).map fun y=>(⟨y,(k:Int),[]⟩:jL))=some ⟨y,(k:Int),[]⟩:=by rw[h];rfl
def jm.cell{W:World}{g:Nat}{x:gR}{a:Int}{f v s k:iJ}{m:Value}(h:jm W g x a f v s k m)(j:Nat):W.cell? ⟨g,j,none⟩=(iw x f v s k++[.int .i64 a,m])[j]? /\W.frozen? ⟨g,j,none⟩=false:=by
 have:=VV h j;rw[bo]at this;exact⟨this,gD h j⟩
def jm.go{W W':World}{g:Nat}{x:gR}{a:Int}{f v s k:iJ}{m:Value}(h:jm W g x a f v s k m)(b:Below W W W'):jm W' g x a f v s k m:=(b.block g (TK h)).trans h
def AX.go{B g c:Nat}{D:Nat->Prop}{r:jL}{W W':World}{f v s k:iJ}{m:Value}(h:AX B g c D r W f v s k m)(a:Below W W W'):AX B g c D r W' f v s k m:=h.keep (fun b _ d=>a.block b d) a.size
def FL{B g:Nat}{e:Int}{c:Nat}{D:Nat->Prop}{r:jL}{d W:World}{f v s k:iJ}{m:Value}{n:Nat}{i:Option jL}(t:i=some ⟨r.x,(n:Int),[]⟩)(j:Below d d W)(q:jm W g r.x e f v s k m)(a:AX B g c D r W f v s k m)
 (hat:r.at_<5)(u:n<5)(h1:c<=100001)(p:g<=d.heap.size):iE B g e c D i d (.returned (.tuple #[])) W:=
 ⟨j.mono p,fun b o _=>j.block b o,VR ⟨_,t,rfl,D,fun _ h=>VR h,f,v,s,k,m,q,a.gB,by omega,a.dg,a.own,by show(-1:Int)<=(n:Int);omega,by show(n:Int)<=9;omega,a.nm,
   a.fs.wait (by omega) (by show(n:Int) <5;omega) (by omega),a.ws.wait (by omega) (by show(n:Int) <6;omega) (by omega),a.l.wait (by omega) (by show(n:Int) <7;omega) (by omega),a.cf.wait (by omega) (by show(n:Int) <8;omega) (by omega)⟩⟩
def Tb(l:List UInt8):(bs l).size=l.length:=rfl
def LM{B g:Nat}{d:Int}{cc:Nat}{D:Nat->Prop}{r:jL}{W:World}{ws:List (List UInt8)}{a:Option Addr}{n c:Nat}(h:vM B g d cc D r W)(hw:ua W a n c ws W)(w:∀s∈ws,s.length<=100000)(hat:r.at_<5)(H:cc<=100001)(M:B<=W.heap.size)(u:GW W):
 Calls prog 292 #[U g,Z a n c] W (iE B g d cc D ((jk r.x 0 ws).map fun y=>⟨y,((0:Nat):Int),[]⟩) W):=by
 obtain⟨f,v,s,k,m,q,i⟩:=h;have K:=i.gB;have j:=O q;have A:=O i;have L:=O u;have l:=O hat;have C:=O w;have E:=O hw;clear q i u hat w hw;go_enter func292,ntmps292;go_wp2_with fail;refine(nF ws a n c _ W E).mono ?_;rintro e N ⟨t,rfl⟩
 obtain ⟨x,rfl,rfl⟩|⟨z,rfl⟩:=lF t
 .have F:=O (C x (by simp))
  obtain⟨c0,f0⟩:=j.cell 0;clear t;go_wp2;go_end0;exact qM (map_some rfl) (TH _ _) j A rfl ⟨rfl,rfl,rfl,rfl⟩ (by have:=F.out;show(bs x).size<=_;rw[Tb];omega) l (by omega) H (by omega)
 .have o:=O (show iE B g d cc D ((jk r.x 0 ws).map fun y=>(⟨y,((0:Nat):Int),[]⟩:jL)) W iX W from iE.bad (la (oX (by omega) z)) (TH _ _) (by omega))
  have b:=o.out;unfold iX at b⊢;have p:=O b;clear b o;go_wp2_with fail;exact⟨rfl,p⟩
def IE{B g:Nat}{j:Int}{cc:Nat}{D:Nat->Prop}{r:jL}{W:World}{ws:List (List UInt8)}{a:Option Addr}{n c:Nat}(h:vM B g j cc D r W)(hw:ua W a n c ws W)(F:∀s∈ws,s.length<=100000)(hat:r.at_<5)(S:cc<=100001)(hB:B<=W.heap.size)(E:GW W):
 Calls prog 294 #[U g,Z a n c] W (iE B g j cc D ((jk r.x 2 ws).map fun y=>⟨y,((2:Nat):Int),[]⟩) W):=by
 obtain⟨f,v,s,k,m,A,q⟩:=h;have a0:=q.gB;have L:=O A;have M:=O q;have N:=O E;have u:=O hat;have P:=O F;have R:=O hw;clear A q E hat F hw;go_enter func294,ntmps294;go_wp2_with fail;refine(nF ws a n c _ W R).mono ?_;rintro e w1 ⟨i,rfl⟩
 obtain ⟨x,rfl,rfl⟩|⟨H,rfl⟩:=lF i
 .have T:=P x (by simp)
  clear i;go_wp2_with fail;refine(mL x 6 W T (by omega) N).mono ?_;rintro e X ⟨i,d⟩
  cases hv:VZ x 6 with
  |none=>
   unfold kX at i;rw[hv]at i;subst i;have C:iE B g j cc D ((jk r.x 2 [x]).map fun y=>(⟨y,((2:Nat):Int),[]⟩:jL)) W iX X:=iE.bad (la (by show(VZ x 6).map _=none;rw[hv];rfl)) d (by omega);have b:=C;clear C hv d;unfold iX at b⊢;have l:=O b;clear b;go_wp2_with fail;exact⟨rfl,l⟩
  |some z=>
   unfold kX at i;rw[hv]at i;subst i;have o:=L.go d;have p:=O (M.go d);have K:((jk r.x 2 [x]).map fun y=>(⟨y,((2:Nat):Int),[]⟩:jL))=some ⟨{r.x with p9:=z},((2:Nat):Int),[]⟩:=map_some (by show(VZ x 6).map _=_;rw[hv];rfl);obtain⟨c0,f0⟩:=o.cell 2;have t:=O o;have b:=O d;have Q:=O K;clear o d K hv;go_wp2;go_end0;exact qM Q b t p rfl ⟨rfl,rfl,rfl,rfl⟩ p.nm u (by omega) S (by omega)
 .have w:=O (show iE B g j cc D ((jk r.x 2 ws).map fun y=>(⟨y,((2:Nat):Int),[]⟩:jL)) W iX W from iE.bad (la (oX (by omega) H)) (TH _ _) (by omega))
  have b:=w.out;unfold iX at b⊢;have l:=O b;clear b w;go_wp2_with fail;exact⟨rfl,l⟩
def LN{B g:Nat}{j:Int}{cc:Nat}{D:Nat->Prop}{r:jL}{W:World}{ws:List (List UInt8)}{a:Option Addr}{n c:Nat}(h:vM B g j cc D r W)(hw:ua W a n c ws W)(F:∀s∈ws,s.length<=100000)(hat:r.at_<5)(S:cc<=100001)(hB:B<=W.heap.size)(E:GW W):
 Calls prog 295 #[U g,Z a n c] W (iE B g j cc D ((jk r.x 3 ws).map fun y=>⟨y,((3:Nat):Int),[]⟩) W):=by
 obtain⟨f,v,s,k,m,A,q⟩:=h;have a0:=q.gB;have L:=O A;have M:=O q;have N:=O E;have u:=O hat;have P:=O F;have R:=O hw;clear A q E hat F hw;go_enter func295,ntmps295;go_wp2_with fail;refine(nF ws a n c _ W R).mono ?_;rintro e w1 ⟨i,rfl⟩
 obtain ⟨x,rfl,rfl⟩|⟨H,rfl⟩:=lF i
 .have T:=P x (by simp)
  clear i;go_wp2_with fail;refine(mL x 0 W T (by omega) N).mono ?_;rintro e X ⟨i,d⟩
  cases hv:VZ x 0 with
  |none=>
   unfold kX at i;rw[hv]at i;subst i;have C:iE B g j cc D ((jk r.x 3 [x]).map fun y=>(⟨y,((3:Nat):Int),[]⟩:jL)) W iX X:=iE.bad (la (by show(VZ x 0).map _=none;rw[hv];rfl)) d (by omega);have b:=C;clear C hv d;unfold iX at b⊢;have l:=O b;clear b;go_wp2_with fail;exact⟨rfl,l⟩
  |some z=>
   unfold kX at i;rw[hv]at i;subst i;have o:=L.go d;have p:=O (M.go d);have K:((jk r.x 3 [x]).map fun y=>(⟨y,((3:Nat):Int),[]⟩:jL))=some ⟨{r.x with stop:=z},((3:Nat):Int),[]⟩:=map_some (by show(VZ x 0).map _=_;rw[hv];rfl);obtain⟨c0,f0⟩:=o.cell 3;have t:=O o;have b:=O d;have Q:=O K;clear o d K hv;go_wp2;go_end0;exact qM Q b t p rfl ⟨rfl,rfl,rfl,rfl⟩ p.nm u (by omega) S (by omega)
 .have w:=O (show iE B g j cc D ((jk r.x 3 ws).map fun y=>(⟨y,((3:Nat):Int),[]⟩:jL)) W iX W from iE.bad (la (oX (by omega) H)) (TH _ _) (by omega))
  have b:=w.out;unfold iX at b⊢;have l:=O b;clear b w;go_wp2_with fail;exact⟨rfl,l⟩
def DK{B g:Nat}{j:Int}{cc:Nat}{D:Nat->Prop}{r:jL}{W:World}{ws:List (List UInt8)}{a:Option Addr}{n c:Nat}(h:vM B g j cc D r W)(hw:ua W a n c ws W)(F:∀s∈ws,s.length<=100000)(hat:r.at_<5)(S:cc<=100001)(hB:B<=W.heap.size)(E:GW W):
 Calls prog 296 #[U g,Z a n c] W (iE B g j cc D ((jk r.x 4 ws).map fun y=>⟨y,((4:Nat):Int),[]⟩) W):=by
 obtain⟨f,v,s,k,m,A,q⟩:=h;have a0:=q.gB;have L:=O A;have M:=O q;have N:=O E;have u:=O hat;have P:=O F;have R:=O hw;clear A q E hat F hw;go_enter func296,ntmps296;go_wp2_with fail;refine(nF ws a n c _ W R).mono ?_;rintro e w1 ⟨i,rfl⟩
 obtain ⟨x,rfl,rfl⟩|⟨H,rfl⟩:=lF i
 .have T:=P x (by simp)
  clear i;go_wp2_with fail;refine(mL x 0 W T (by omega) N).mono ?_;rintro e X ⟨i,d⟩
  cases hv:VZ x 0 with
  |none=>
   unfold kX at i;rw[hv]at i;subst i;have C:iE B g j cc D ((jk r.x 4 [x]).map fun y=>(⟨y,((4:Nat):Int),[]⟩:jL)) W iX X:=iE.bad (la (by show(VZ x 0).map _=none;rw[hv];rfl)) d (by omega);have b:=C;clear C hv d;unfold iX at b⊢;have l:=O b;clear b;go_wp2_with fail;exact⟨rfl,l⟩
  |some z=>
   unfold kX at i;rw[hv]at i;subst i;have o:=L.go d;have p:=O (M.go d);have K:((jk r.x 4 [x]).map fun y=>(⟨y,((4:Nat):Int),[]⟩:jL))=some ⟨{r.x with i4:=z},((4:Nat):Int),[]⟩:=map_some (by show(VZ x 0).map _=_;rw[hv];rfl);obtain⟨c0,f0⟩:=o.cell 4;have t:=O o;have b:=O d;have Q:=O K;clear o d K hv;go_wp2;go_end0;exact qM Q b t p rfl ⟨rfl,rfl,rfl,rfl⟩ p.nm u (by omega) S (by omega)
 .have w:=O (show iE B g j cc D ((jk r.x 4 ws).map fun y=>(⟨y,((4:Nat):Int),[]⟩:jL)) W iX W from iE.bad (la (oX (by omega) H)) (TH _ _) (by omega))
  have b:=w.out;unfold iX at b⊢;have l:=O b;clear b w;go_wp2_with fail;exact⟨rfl,l⟩
def FM{B g:Nat}{j:Int}{cc:Nat}{D:Nat->Prop}{r:jL}{W:World}{ws:List (List UInt8)}{a:Option Addr}{n c:Nat}(h:vM B g j cc D r W)(hw:ua W a n c ws W)(M:∀s∈ws,s.length<=100000)(hat:r.at_<5)(K:cc<=100001)(hB:B<=W.heap.size)(L:GW W):
 Calls prog 293 #[U g,Z a n c] W (iE B g j cc D ((jk r.x 1 ws).map fun y=>⟨y,((1:Nat):Int),[]⟩) W):=by
 obtain⟨f,v,s,k,m,F,t⟩:=h;have a0:=t.gB;have u:=O F;have A:=O t;have R:=O L;have q:=O hat;have S:=O M;have Hw:=O hw;clear F t L hat M hw;go_enter func293,ntmps293;go_wp2_with fail;refine(nF ws a n c _ W Hw).mono ?_;rintro e w1 ⟨i,rfl⟩
 obtain ⟨x,rfl,rfl⟩|⟨P,rfl⟩:=lF i
 .have hx:=S x (by simp)
  clear i;by_cases hi:x=lQ
  .subst hi
   have T:=O (show iE B g j cc D ((jk r.x 1 [lQ]).map fun y=>(⟨y,((1:Nat):Int),[]⟩:jL)) W (.returned (.tuple #[])) W from FL (map_some (y:=r.x) (by rw[xt,aq rfl])) (TH _ _) u A q (by omega) K (by omega))
   have N:(bs lQ=={data:=#[105,110,102,105,110,105,116,121]})=true:=by decide
   go_wp2;go_end0;exact T
  .have N:(x==[105,110,102,105,110,105,116,121])=false:=by rw[ak];exact hi
   have E:=O hi;clear hi;go_wp2_with fail;refine(mL x 6 W hx (by omega) R).mono ?_;rintro e w2 ⟨i,d⟩
   cases hv:VZ x 6 with
   |none=>
    unfold kX at i;rw[hv]at i;subst i;have H:iE B g j cc D ((jk r.x 1 [x]).map fun y=>(⟨y,((1:Nat):Int),[]⟩:jL)) W iX w2:=iE.bad (la (by rw[xt,aj E.out,hv];rfl)) d (by omega);have b:=H;clear H hv d;unfold iX at b⊢;have l:=O b;clear b;go_wp2_with fail;exact⟨rfl,l⟩
   |some z=>
    unfold kX at i;rw[hv]at i;subst i;have o:=u.go d;have p:=O (A.go d);have Q:((jk r.x 1 [x]).map fun y=>(⟨y,((1:Nat):Int),[]⟩:jL))=some ⟨{r.x with i9:=z},((1:Nat):Int),[]⟩:=map_some (by rw[xt,aj E.out,hv];rfl);obtain⟨c0,f0⟩:=o.cell 1;have w:=O o;have b:=O d;have X:=O Q;clear o d Q hv;go_wp2;go_end0;exact qM X b w p rfl ⟨rfl,rfl,rfl,rfl⟩ p.nm q (by omega) K (by omega)
 .have C:=O (show iE B g j cc D ((jk r.x 1 ws).map fun y=>(⟨y,((1:Nat):Int),[]⟩:jL)) W iX W from iE.bad (la (oX (by omega) P)) (TH _ _) (by omega))
  have b:=C.out;unfold iX at b⊢;have l:=O b;clear b C;go_wp2_with fail;exact⟨rfl,l⟩
def N0{B g:Nat}{d:Int}{cc:Nat}{D:Nat->Prop}{r:jL}{W:World}{ws:List (List UInt8)}{a:Option Addr}{n c:Nat}(h:vM B g d cc D r W)(hw:ua W a n c ws W)(hat:r.at_<=8)(t:cc<=100001)(p:B<=W.heap.size):
 Calls prog 301 #[U g,Z a n c] W (iE B g d cc D ((jk r.x 9 ws).map fun y=>⟨y,((9:Nat):Int),[]⟩) W):=by
 have b:=hw.1
 have w:g<B:=by obtain⟨f,v,s,k,m,A,q⟩:=h;exact q.gB
 have H:=O h;have z:=O hw;clear h hw;go_enter func301,ntmps301
 match ws,b with
 |[],b=>
  obtain rfl:n=0:=b.symm;have o:=O (show iE B g d cc D ((jk r.x 9 []).map fun y=>(⟨y,((9:Nat):Int),[]⟩:jL)) W (.returned (.tuple #[])) W from Xy (map_some (k:=9) rfl) (TH _ _) H hat t p);clear b;go_wp2_with fail;refine(kW W).mono ?_;rintro e u ⟨rfl,rfl⟩;go_wp2;go_end0;exact o
 |v::r',b=>
  have h0:((n:Int)==0)=false:=by rw[ak];simp at b;omega
  have j:=O (show iE B g d cc D ((jk r.x 9 (v::r')).map fun y=>(⟨y,((9:Nat):Int),[]⟩:jL)) W iX W from iE.bad (la (k:=9) rfl) (TH _ _) (by omega));clear b;go_wp2_with fail;refine(lm W).mono ?_;rintro e u ⟨rfl,rfl⟩;have i:=j.out;unfold iX at i⊢;have l:=O i;clear i j;go_wp2_with fail;exact⟨rfl,l⟩
