import Derived.Test.YtgohdcccfkjooaaGreatDoorQAO
namespace Go.Proofs.YtgohdcccfkjooaaGreatDoor
set_option linter.all false
set_option maxRecDepth 100000
set_option maxHeartbeats 1600000
open Go.Proofs.Tryz Go.RowKit
def bt(n b a:Int):Bool:=decide (b<=n)&&decide (n<=a)
def jc(n c a:Int)(w):Calls prog 122 #[n,c,a] w (iZ w (.bool (bt n c a))):=by
 go_enter func122,ntmps122
 go_wp2
 all_goals
  go_ret;refine⟨ai (fun b=>Ending.returned (Value.bool b)) ?_,TH _ _⟩;rw[bJ];simp[bt] <;>omega
def ix(n c a:Int)(w):Calls prog 108 #[n,c,a] w (iZ w (.bool (bt n c a))):=by
 go_enter func108,ntmps108
 go_wp2
 all_goals
  go_ret;refine⟨ai (fun b=>Ending.returned (Value.bool b)) ?_,TH _ _⟩;rw[bJ];simp[bt] <;>omega
def pM(s:gW)(n:Nat):Bool:=decide (s.kind=1)&&s.glass.toList.isEmpty&&decide (s.thick=0)&&decide (s.order=0)&&decide (n=0)
def BU(s a n c w):Calls prog 166 #[.agg (⟨s,a,n,c⟩:jt)] w (iZ w (.bool (pM s n))):=by
 have h1:=Y.new w s a n c;have d:=(TH w w).alloc (aa _) (.cells (⟨s,a,n,c⟩:jt) 70);have e:=O h1;have b:=O d;clear h1 d
 go_enter func166,ntmps166
 go_upto_region 1 with fail
 refine gI (fun l=>Y l w s a n c/\Below w w l) ⟨e,b⟩ ?_;clear e b;rintro m ⟨h1,g⟩;obtain⟨k0,_,_,_,_,_,_,_,_,_,_,h,i,j,_,_,_,_,_,_,_,k⟩:=h1.cells;have f:=O g;clear g h1;cases q1:(s.kind==1) <;>cases q2:s.glass.toList.isEmpty<;>cases q3:(s.thick==0) <;>cases q4:(s.order==0) <;>cases q5:((n:Int)==0)
 all_goals
  go_wp2;go_ret;refine⟨?_,f⟩;clear f k0 h i j k;simp[pM,q2]at*
  try omega
def tr(x:gM):Bool:=oA x.s x.zs (x.zs.length/3)
def mU{S:Nat->Prop}{w a n c zs}(h:IRp S w 3 a n c zs):n=zs.length/3:=by rw[h.1];omega
def Pk(x a n c)(w:World)(f:IR w w 3 a n c x.zs)(m:n<=1000000)(l:x.s.glass.size<=9223372036854775807):
 Calls prog 163 #[.agg (⟨x.s,a,n,c⟩:jt)] w (iZ w (.bool (!tr x))):=by
 have d:tr x=oA x.s x.zs n:=by unfold tr;rw[<- mU (S:=fun _=>True) (f.irp (fun _ _=>trivial))]
 have h1:=Y.new w x.s a n c;have i:=O h1;have j:=O f;have h:=O d;clear h1 f d
 go_enter func163,ntmps163
 cases ho:oA x.s x.zs n
 all_goals
  have g:=O ho;clear ho
  go_wp2_with(first
   |(refine gO i rfl (.tmp 1) rfl rfl ?_)
   |((with_reducible refine(nC x.s x.zs a n c _ (j.out.go ((TH _ _).alloc (aa _) _)) m l).mono ?_);rintro e o ⟨b,k⟩;rw[g]at b;unfold err at b;simp only[bX,de,bC]at b;subst b))
  go_ret;exact⟨by rw[h,g];rfl,I (gY (TH _ _)) k⟩
def uM(l:List gM):Bool:=l.any fun x=>!tr x
theorem wV{α:Type}{f}{l:List α}{k x}(h:l[k]? =some x)(h0:(l.take k).any f=false):(l.take (k+1)).any f=f x:=by
 rw [mn h,eo,h0];simp
theorem yI{α:Type}{f}{l:List α}{k:Nat}{x}(h:l[k]? =some x)(h0:f x=true):l.any f=true:=cw.2 ⟨x,aL h,h0⟩
theorem Ka(l a n c w)(h:RR jE 22 (fun b=>b<w.heap.size) w a n c l)(K:n≤1000000):
 Calls prog 211 #[.slice a n c,.func (.func 163) #[] #[]] w (Jl w (uM l)):=by
 have H:=O h;clear h;have g:=H.out.1
 go_enter func211,ntmps211
 go_wp2_with fail
 go_loopw [8] (fun p wr=>∃k:Nat,k≤n∧p= .int .i64 (k:Int)∧(l.take k).any (fun x=>!tr x)=false∧Below w.heap.size w wr) (fun p _=>n - (intOf p).toNat)
 case atStart=>exact ⟨0,aA _,rfl,rfl,TH _ _⟩
 case round=>
  obtain ⟨k,J,rfl,z,t⟩:=hrel;have r:=O z;have d:=O t;clear z t
  by_cases v:k<n
  ·obtain ⟨b,off,x,cs,rfl,hlt,B,⟨a2,F,c2,rfl,C,y,u,j⟩,A⟩:=(H.out.go iD d.out).at v
   have s:=O B;have E:=O (C.ir (fun _ h=>h));have D:=O A;have q:=O j;clear B C u A j;cases hv:tr x
   all_goals
    have m:=O hv;clear hv
    go_wp2_with (first
     |(refine lw D.out rfl (.tmp 14) rfl rfl ?_)
     |((with_reducible refine (Pk x _ F c2 _ E.out y q.out).mono ?_);rintro e L ⟨o,i⟩;rw [m.out] at o;simp only [gf,fT] at o;subst o))
   ·go_ret
    refine ⟨(k:Int),rfl,?_,I d.out i⟩;unfold uM;rw [yI (f:=fun x=>!tr x) s.out (by rw [m.out];rfl)];simp
   ·go_roundw
    case rel=>exact ⟨k+1,by omega,by go_num,(wV s.out r.out).trans (by rw [m.out];rfl),I d.out i⟩
    case measure=>simp [intOf];omega
  ·obtain rfl:k=n:=by omega
   go_wp2;go_ret;refine ⟨-1,rfl,?_,d.out⟩;have h1:=r.out;rw [← g,bf] at h1;unfold uM;rw [h1];rfl
theorem su(l a n c w)(h:RR jE 22 (fun b=>b<w.heap.size) w a n c l)(i:n≤1000000):
 Calls prog 165 #[.slice a n c,.func (.func 163) #[] #[]] w (iZ w (.bool (uM l))):=by
 go_enter func165,ntmps165
 go_wp2_with fail
 refine (Ka l a n c _ h i).mono ?_;rintro e j ⟨r,rfl,d,g⟩
 by_cases h0:0≤r
 ·rw [aP h0] at d
  have f:=O d;clear d;go_wp2;go_ret;exact ⟨by rw [← f.out];rfl,g⟩
 ·rw [aw h0] at d
  have f:=O d;clear d;have h1:decide (0≤r)=false:=aw h0;go_wp2;go_ret;exact ⟨by rw [← f.out];rfl,g⟩
def oK(zs:List Int)(n:Nat)(s p:Int):Bool:=(List.range n).any fun k=>(zs.getD (k*3) 0==s) && (zs.getD (k*3+1) 0==p)
theorem Kb(s p v a p0:Int)(g w)(h0:w.cell? ⟨g,0,none⟩=some (.int .i64 a))(h1:w.cell? ⟨g,1,none⟩=some (.int .i64 p0))(b:g<w.heap.size):
 Calls prog 214 #[.agg #[s,p,v],.pointer (some ⟨g,0,none⟩)] w (iZ w (.bool ((s==a) && (p==p0)))):=by
 cases q1:(s==a) <;>cases q2:(p==p0)
 all_goals
  go_enter func214,ntmps214
  go_wp2;go_ret;exact ⟨rfl,gY (TH _ _)⟩
theorem lL{f k}(h:(List.range k).any f=false):(List.range (k+1)).any f=f k:=by
 rw [bV,eo,h];simp
theorem lM{f n k}(a:k<n)(h:f k=true):(List.range n).any f=true:=cw.2 ⟨k,aJ.2 a,h⟩
theorem Eo(zs a n c f p0 g w)(h:IR w.heap.size w 3 a n c zs)(C:n≤1000000)(h0:w.cell? ⟨g,0,none⟩=some (.int .i64 f))(h1:w.cell? ⟨g,1,none⟩=some (.int .i64 p0))(m:g<w.heap.size):
 Calls prog 243 #[.slice a n c,.func (.func 214) #[] #[.pointer (some ⟨g,0,none⟩)]] w (Jl w (oK zs n f p0)):=by
 have H:=O h;have y:=O h0;have z:=O h1;clear h h0 h1
 go_enter func243,ntmps243
 go_wp2_with fail
 go_loopw [8] (fun o wr=>∃k:Nat,k≤n∧o= .int .i64 (k:Int)∧oK zs k f p0=false∧Below w.heap.size w wr) (fun o _=>n - (intOf o).toNat)
 case atStart=>exact ⟨0,aA _,rfl,rfl,TH _ _⟩
 case round=>
  obtain ⟨k,B,rfl,x,t⟩:=hrel;have r:=O x;have d:=O t;clear x t
  by_cases j:k<n
  ·obtain ⟨b,off,rfl,hlt,E,x1,x2⟩:=(H.out.go d.out).at3 j
   have hf:∀v,((zs.getD (k*3) 0==f) && (zs.getD (k*3+1) 0==p0))=v→(fun k=>(zs.getD (k*3) 0==f) && (zs.getD (k*3+1) 0==p0)) k=v:=fun v h=>h
   have l:=lL r.out;have q:=O l;clear l;have c0:=O ((d.out.cell (p:=⟨g,0,none⟩) m).trans y.out);have c1:=O ((d.out.cell (p:=⟨g,1,none⟩) m).trans z.out);cases hv:((zs.getD (k*3) 0==f) && (zs.getD (k*3+1) 0==p0))
   all_goals
    have s:=O hv;have A:=O (hf _ hv);clear hv hf;generalize zs.getD (k*3) 0=y0 at*;generalize zs.getD (k*3+1) 0=y1 at*;generalize zs.getD (k*3+2) 0=y2 at*
    go_wp2_with ((with_reducible refine (Kb y0 y1 y2 f p0 g _ c0.out c1.out (ab m d.out.size)).mono ?_);rintro e D ⟨u,i⟩;rw [s.out] at u;subst u)
   ·go_roundw
    case rel=>exact ⟨k+1,by omega,by go_num,q.out.trans s.out,I d.out i⟩
    case measure=>simp [intOf];omega
   ·go_ret
    refine ⟨(k:Int),rfl,?_,I d.out i⟩;unfold oK;rw [lM j A.out];simp
  ·obtain rfl:k=n:=by omega
   go_wp2;go_ret;exact ⟨-1,rfl,by rw [r.out];rfl,d.out⟩
theorem tK(zs a n c i p0 g w)(h:IR w.heap.size w 3 a n c zs)(o:n≤1000000)(h0:w.cell? ⟨g,0,none⟩=some (.int .i64 i))(h1:w.cell? ⟨g,1,none⟩=some (.int .i64 p0))(m:g<w.heap.size):
 Calls prog 215 #[.slice a n c,.func (.func 214) #[] #[.pointer (some ⟨g,0,none⟩)]] w (iZ w (.bool (oK zs n i p0))):=by
 have k:=O h0;have l:=O h1;clear h0 h1
 go_enter func215,ntmps215
 go_wp2_with fail
 refine (Eo zs a n c i p0 g _ h o k.out l.out m).mono ?_;rintro e p ⟨r,rfl,b,j⟩
 by_cases d:0≤r
 ·rw [aP d] at b
  have f:=O b;clear b;go_wp2;go_ret;exact ⟨by rw [← f.out];rfl,j⟩
 ·rw [aw d] at b
  have f:=O b;clear b;have h1:decide (0≤r)=false:=aw d;go_wp2;go_ret;exact ⟨by rw [← f.out];rfl,j⟩
def nZ(k:Int):List Int:=if k=1 then[1,2,5,6,7,8,10]else if k=2 then[1,2,3,4,10]else if k=3 then[11,12,13,14,15]else if k=4 then[1,10]else[]
def jY(N:Nat)(w:World):Prop:=
 ∃r,w.cell? (J 11)=some (.map (some r))/\11<N/\r<N/\ ∃d b,w.heap[r]? =some (.map d b)/\
  ∀k:Int,1<=k->k<=4-> ∃i a n c,Instr.findNow (.int .i64) (.int .i64 k) d.toList 0=some (some (i,.slice a n c))/\IR N w 1 a n c (nZ k)
def jY.below{N w w'}(h:jY N w)(d:Below N w w'):jY N w':=by
 obtain⟨r,h0,e,g,j,b,h1,h2⟩:=h;refine⟨r,(d.cell (p:=J 11) e).trans h0,e,g,j,b,(d.block r g).trans h1,fun k m f=>?_⟩;obtain⟨i,a,n,c,h3,l⟩:=h2 k m f;exact⟨i,a,n,c,h3,l.below d (aa _)⟩
def jY.mono{N M w}(h:jY N w)(g:N<=M):jY M w:=by
 obtain⟨r,h0,l,m,e,b,h1,h2⟩:=h;refine⟨r,h0,by omega,by omega,e,b,h1,fun k j d=>?_⟩;obtain⟨i,a,n,c,h3,f⟩:=h2 k j d;exact⟨i,a,n,c,h3,f.mono g⟩
def jY.go{w w':World}(h:jY w w)(a:Below w w w'):jY w' w':=(h.below a).mono a.size
def tL{P t kt e}(h:P.underlying t=some (.map kt e))(d:P.underlying kt=some (.int .i64)){w r i k v c a}(g:w.heap[r]? =some (.map c a))(hf:Instr.findNow (.int .i64) (.int .i64 k) c.toList 0=some (some (i,v))):
 (Instr.lookup t (.map (some r)) (.int .i64 k) false).run P w=.ok v w:=by
 have f:∀b,(Instr.checkKey b 10000 kt (.int .i64 k)).run P w=.ok () w:=fun b=>by
  rw[show(10000:Nat)=9999+1 from rfl,Instr.checkKey,bR,bQ d];rfl
 simp[Instr.lookup,Instr.findKey,bR,bQ h,bQ d,MapKept.run_getObj_map g,f,hf]
def IR.sl{N w a n c zs}(h:IR N w 1 a n c zs):SL N w a n c zs:=
 ⟨by rw[h.1,dn],h.2.1,fun b=>by have:=h.2.2 b;rwa[dn]at this⟩
def Kc{f:Int->Bool}{zs:List Int}{k}(h:k<zs.length)(h0:(zs.take k).any f=false)(v)(a:f (zs.getD k 0)=v):(zs.take (k+1)).any f=v:=(Ee h h0).trans a
def Kd(zs a n c)(v:Int)(w:World)(j:SL w w a n c zs)(B:n<=1000000):
 Calls prog 287 #[Z a n c,v] w (Jl w (zs.any fun z=>v==z)):=by
 have e:=j.len;have u:=O j;have d:=O e;clear j e
 go_enter func287,ntmps287
 go_wp2_with fail
 go_loopw [8] (fun l wr=>∃k:Nat,k<=n/\l=.int .i64 (k:Int)/\((zs.take k).any fun z=>v==z)=false/\Below w w wr) (fun l _=>n-(intOf l).toNat)
 case atStart=>exact⟨0,aA _,rfl,rfl,TH _ _⟩
 case round=>
  obtain⟨k,A,rfl,s,q⟩:=hrel;have o:=O s;have g:=O q;clear s q
  by_cases h:k<n
  .obtain⟨b,off,rfl,hlt,r⟩:=(u.go g).at (by omega)
   have c0:=r k h;clear r;have i:=Kc (f:=fun z=>v==z) (k:=k) (by rw[<- d];exact h) o;have m:=O i;clear i;cases hv:(v==zs.getD k 0)
   all_goals
    have p:=O (m _ hv);clear m;generalize zs.getD k 0=z at*;go_wp2
   .go_roundw
    case rel=>exact⟨k+1,by omega,by go_num,p,g⟩
    case measure=>simp[intOf];omega
   .go_ret
    refine⟨(k:Int),rfl,?_,g⟩;rw[aP (by omega)]
    symm
    obtain⟨x,y,t⟩:=cw.1 p;exact cw.2 ⟨x,List.mem_of_mem_take y,t⟩
  .obtain rfl:k=n:=by omega
   go_wp2;go_ret;refine⟨-1,rfl,?_,g⟩;have h1:=o.out;rw[d,bf]at h1;rw[h1];rfl
def CX(zs a n c)(v:Int)(w:World)(i:SL w w a n c zs)(h:n<=1000000):
 Calls prog 286 #[Z a n c,v] w (iZ w (.bool (zs.any fun z=>v==z))):=by
 go_enter func286,ntmps286
 go_wp2_with fail
 refine(Kd zs a n c v _ i h).mono ?_;rintro e j ⟨r,rfl,b,g⟩
 by_cases d:0<=r
 .rw[aP d]at b
  have f:=O b;clear b;go_wp2;go_ret;exact⟨by rw[<- f];rfl,g⟩
 .rw[aw d]at b
  have f:=O b;clear b;have h1:decide (0<=r)=false:=aw d;go_wp2;go_ret;exact⟨by rw[<- f];rfl,g⟩
def A3(k):(nZ k).length<=7:=by unfold nZ;split;decide;split;decide;split;decide;split<;>decide
def Pl(r)(k v:Int)(w:World)(p:jY w w)(g:w.cell? (J 11)=some (.map (some r)))(h1:1<=k)(j:k<=4):
 Calls prog 283 #[.map (some r),k,v] w (iZ w (.bool ((nZ k).any fun z=>v==z))):=by
 obtain⟨t,h0,_,hlt,q,d,b,f⟩:=p;rw[g]at h0;cases h0;obtain⟨i,a,n,c,hf,hi⟩:=f k h1 j;have s:=tL underlying353 underlying3 b hf
 have o:n<=1000000:=by have:=A3 k;have:=hi.1;omega
 have h:=O hi.sl;clear b f hf hi g
 go_enter func283,ntmps283
 go_wp2_with((with_reducible refine(CX (nZ k) a n c v _ h.out o).mono ?_);rintro e u ⟨m,l⟩;subst m)
 go_ret;exact⟨rfl,l⟩
def tt(s:gW)(p:Int):Bool:=if p=16\/p=17 then !(s.order==0)else(p==9)||(nZ s.kind).any fun z=>p==z
def Ep(s)(p:Int)(a n c)(w:World)(b:jY w w)(h1:1<=s.kind)(y:s.kind<=4):
 Calls prog 275 #[.agg (⟨s,a,n,c⟩:jt),p] w (iZ w (.bool (tt s p))):=by
 have d:=Y.new w s a n c;have m:=(TH w w).alloc (aa _) (.cells (⟨s,a,n,c⟩:jt) 70);have o:=O d;have t:=O m;have g:=O (b.go m);clear d m b
 go_enter func275,ntmps275
 go_upto_region 1 with fail
 refine gI (fun i=>Y i w s a n c/\Below w w i/\jY i i) ⟨o,t,g⟩ ?_;clear o t g;rintro E ⟨d,v,b⟩;obtain⟨r,h0,_⟩:=id b;obtain⟨k0,_,_,_,_,_,_,_,_,_,_,B,_⟩:=d.cells;have k:=O v;have g:=O b;clear v b d
 by_cases h:p=16\/p=17
 .have f:tt s p=!(s.order==0):=by unfold tt;rw[aq h]
  have l:=O f;clear f
  obtain rfl|rfl:=h
  all_goals
   go_wp2;go_ret;exact⟨by rw[l];rfl,k⟩
 .have f:tt s p=((p==9)||(nZ s.kind).any fun z=>p==z):=by unfold tt;rw[aj h]
  have l:=O f;clear f
  have C:(p==16)=false:=by simp;omega
  have D:(p==17)=false:=by simp;omega
  have x:=O h0;clear h;cases q:(p==9)
  all_goals
   have Q:=O q
   go_wp2_with((with_reducible refine(Pl r s.kind p _ g.out x.out h1 y).mono ?_);rintro e F ⟨A,j⟩;subst A;have u:=O j;clear j)
   go_ret;rw[l,Q]
  .exact⟨rfl,I k u⟩
  .exact⟨rfl,k⟩
def gW.get(s:gW)(p:Int):Int:=if p=1 then s.curv else if p=2 then s.conic else if p=3 then s.curvX else if p=4 then s.conicX else if p=5 then s.a0 else if p=6 then s.a1 else if p=7 then s.a2 else if p=8 then s.a3 else if p=9 then s.thick else if p=10 then s.semi else if p=11 then s.dx else if p=12 then s.dy else if p=13 then s.ax else if p=14 then s.ay else if p=15 then s.az else if p=16 then s.p0 else if p=17 then s.p1 else 0
def gW.put(s:gW)(p v:Int):gW:=if p=1 then{s with curv:=v} else if p=2 then{s with conic:=v} else if p=3 then{s with curvX:=v} else if p=4 then{s with conicX:=v} else if p=5 then{s with a0:=v} else if p=6 then{s with a1:=v} else if p=7 then{s with a2:=v} else if p=8 then{s with a3:=v} else if p=9 then{s with thick:=v} else if p=10 then{s with semi:=v} else if p=11 then{s with dx:=v} else if p=12 then{s with dy:=v} else if p=13 then{s with ax:=v} else if p=14 then{s with ay:=v} else if p=15 then{s with az:=v} else if p=16 then{s with p0:=v} else if p=17 then{s with p1:=v} else s
def mi(p:Int):Nat:=if p=1 then 1 else if p=2 then 2 else if p=3 then 3 else if p=4 then 4 else if p=5 then 5 else if p=6 then 6 else if p=7 then 7 else if p=8 then 8 else if p=9 then 12 else if p=10 then 14 else if p=11 then 16 else if p=12 then 17 else if p=13 then 18 else if p=14 then 19 else if p=15 then 20 else if p=16 then 9 else if p=17 then 10 else 0
def oL{p:Int}(h1:1<=p)(h2:p<=17):p=1\/p=2\/p=3\/p=4\/p=5\/p=6\/p=7\/p=8\/p=9\/p=10\/p=11\/p=12\/p=13\/p=14\/p=15\/p=16\/p=17:=by omega
def Y.put{w g s a n c}(h:Y w g s a n c){p}(h1:1<=p)(h2:p<=17)(v):Y (w.setCell ⟨g,mi p,none⟩ (.int .i64 v)) g (s.put p v) a n c:=by
 have k:=gG h (mi p) (.int .i64 v);unfold Y;rw[k]
 obtain rfl|rfl|rfl|rfl|rfl|rfl|rfl|rfl|rfl|rfl|rfl|rfl|rfl|rfl|rfl|rfl|rfl:=oL h1 h2<;>rfl
def Y.getP{w g s a n c}(h:Y w g s a n c){p}(h1:1<=p)(h2:p<=17):w.cell? ⟨g,mi p,none⟩=some (.int .i64 (s.get p)):=by
 obtain⟨k0,k1,t,u,v,x,y,z,A,B,b,d,e,f,i,j,k,l,m,o,q,r⟩:=h.cells
 obtain rfl|rfl|rfl|rfl|rfl|rfl|rfl|rfl|rfl|rfl|rfl|rfl|rfl|rfl|rfl|rfl|rfl:=oL h1 h2<;>assumption
def oM{s p}(h:tt s p=true):1<=p/\p<=17:=by
 unfold tt nZ at h
 repeat' split at h
 all_goals simp at h;omega
def vT{s zs n}(h:oA s zs n=true):1<=s.kind/\s.kind<=4:=by
 have h1:uX s zs n=true:=by unfold oA at h;simp at h;exact h.1
 have h2:=an.1 h1 0 (by simp);unfold pC rK at h2;simp[jr]at h2;omega
def nj(s:gW)(zs:List Int)(n:Nat)(p:Int):Int:=if oA s zs n=true then(if tt s p=true then 0 else 2)else 110
def xO(s zs)(p:Int)(a n c)(w:World)(t:IR w w 3 a n c zs)(q:n<=1000000)(o:s.glass.size<=9223372036854775807)(r:jY w w):
 Calls prog 261 #[.agg (⟨s,a,n,c⟩:jt),p] w (iZ w (.int .i64 (nj s zs n p))):=by
 have h1:=Y.new w s a n c;have f:=(TH w w).alloc (aa _) (.cells (⟨s,a,n,c⟩:jt) 70);have j:=O h1;have m:=O (t.go f);have u:=O (r.go f);have i:=O f;clear h1 t r f
 go_enter func261,ntmps261
 cases ho:oA s zs n with
 |false=>
  have h:=O ho;clear ho
  go_wp2_with(first
   |(refine gO j rfl (.tmp 2) rfl rfl ?_)
   |((with_reducible refine(nC s zs a n c _ m.out q o).mono ?_);rintro e y ⟨b,d⟩;rw[h]at b;unfold err at b;simp only[de,bC]at b;subst b))
  go_ret;exact⟨by(unfold nj;rw[aj (by rw[h];simp)];rfl),I i d⟩
 |true=>
  obtain⟨v,x⟩:=vT ho;have h:=O ho;clear ho;cases hh:tt s p
  all_goals
   have l:=O hh;clear hh
   go_wp2_with(first
    |(refine gO j rfl (.tmp 2) rfl rfl ?_)
    |(refine gO (Y.go j g (by simp)) rfl (.tmp 2) rfl rfl ?_)
    |((with_reducible refine(nC s zs a n c _ m.out q o).mono ?_);rintro e y ⟨b,d⟩;rw[h]at b;unfold err at b;simp only[bX]at b;subst b;have g:=O d;clear d)
    |((with_reducible refine(Ep s p a n c _ (u.out.go g.out) v x).mono ?_);rintro e z ⟨b,d⟩;rw[l]at b;subst b;have k:=O d;clear d))
   go_ret;refine⟨?_,I i (I g k)⟩;unfold nj;rw[aq h.out,l];rfl
def vl(s:gW)(zs:List Int)(n:Nat)(p:Int):Bool:=oA s zs n&&tt s p
def MN(s zs)(p:Int)(a n c)(w:World)(t:IR w w 3 a n c zs)(q:n<=1000000)(o:s.glass.size<=9223372036854775807)(r:jY w w):
 Calls prog 260 #[.agg (⟨s,a,n,c⟩:jt),p] w (iZ w (.bool (vl s zs n p))):=by
 have h1:=Y.new w s a n c;have f:=(TH w w).alloc (aa _) (.cells (⟨s,a,n,c⟩:jt) 70);have j:=O h1;have m:=O (t.go f);have u:=O (r.go f);have i:=O f;clear h1 t r f
 go_enter func260,ntmps260
 cases ho:oA s zs n with
 |false=>
  have h:=O ho;clear ho
  go_wp2_with(first
   |(refine gO j rfl (.tmp 2) rfl rfl ?_)
   |((with_reducible refine(nC s zs a n c _ m.out q o).mono ?_);rintro e y ⟨b,d⟩;rw[h]at b;unfold err at b;simp only[de,bC]at b;subst b))
  go_ret;exact⟨by unfold vl;rw[h];rfl,I i d⟩
 |true=>
  obtain⟨v,x⟩:=vT ho;have h:=O ho;clear ho;cases hh:tt s p
  all_goals
   have l:=O hh;clear hh
   go_wp2_with(first
    |(refine gO j rfl (.tmp 2) rfl rfl ?_)
    |(refine zj (Y.go j g (by simp)) (by rfl) (.tmp 2) rfl rfl ?_)
    |((with_reducible refine(nC s zs a n c _ m.out q o).mono ?_);rintro e y ⟨b,d⟩;rw[h]at b;unfold err at b;simp only[bX]at b;subst b;have g:=O d;clear d)
    |((with_reducible refine(Ep s p a n c _ (u.out.go g.out) v x).mono ?_);rintro e z ⟨b,d⟩;rw[l]at b;subst b;have k:=O d;clear d))
   go_ret;refine⟨?_,I i (I g k)⟩;unfold vl;rw[h,l];rfl
end Go.Proofs.YtgohdcccfkjooaaGreatDoor
