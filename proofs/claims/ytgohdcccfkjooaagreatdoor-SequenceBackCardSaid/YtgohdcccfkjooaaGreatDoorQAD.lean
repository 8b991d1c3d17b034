import Derived.Test.YtgohdcccfkjooaaGreatDoorQAC
import Derived.Deep.DeepCutAuto
import Derived.Deep.CutBlock
namespace Go.Proofs.YtgohdcccfkjooaaGreatDoor
set_option linter.all false
set_option maxRecDepth 100000
set_option maxHeartbeats 3200000
open Go.Proofs.Tryz Go.RowKit
structure gW where
 kind:Int
 curv:Int
 conic:Int
 curvX:Int
 conicX:Int
 a0:Int
 a1:Int
 a2:Int
 a3:Int
 p0:Int
 p1:Int
 order:Int
 thick:Int
 glass:ByteArray
 semi:Int
 hole:Int
 dx:Int
 dy:Int
 ax:Int
 ay:Int
 az:Int
 deriving DecidableEq
def IR(N:Nat)(w:World)(k:Nat)(a:Option Addr)(n c:Nat)(zs:List Int):Prop:=
 zs.length=n*k/\n<=c/\(0<n-> ∃b off,a=some ⟨b,off,none⟩/\b<N/\ ∀j,j<n*k->w.cell? ⟨b,off+j,none⟩=some (.int .i64 (zs.getD j 0)))
def IR.below{N M w w' k a n c zs}(h:IR N w k a n c zs)(f:Below M w w')(d:N<=M):IR N w' k a n c zs:=
 ⟨h.1,h.2.1,fun i=>let⟨b,off,e,hlt,hc⟩:=h.2.2 i;⟨b,off,e,hlt,fun j g=>(f.cell (p:=⟨b,off+j,none⟩) (ab hlt d)).trans (hc j g)⟩⟩
def IR.mono{N M w k a n c zs}(h:IR N w k a n c zs)(d:N<=M):IR M w k a n c zs:=
 ⟨h.1,h.2.1,fun f=>let⟨b,off,e,hlt,hc⟩:=h.2.2 f;⟨b,off,e,ab hlt d,hc⟩⟩
def IR.go{w w':World}{k a n c zs}(h:IR w w k a n c zs)(b:Below w w w'):IR w' w' k a n c zs:=
 (h.below b (aa _)).mono b.size
def IR.nil(N w k a c):IR N w k a 0 c []:=⟨by simp,aA _,fun h=>absurd h (by omega)⟩
def Y(w:World)(g:Nat)(s:gW)(a:Option Addr)(n c:Nat):Prop:=w.heap[g]? =some (.cells #[s.kind,s.curv,s.conic,s.curvX,s.conicX,s.a0,s.a1,s.a2,s.a3,s.p0,s.p1,s.order,s.thick,s.glass,s.semi,s.hole,s.dx,s.dy,s.ax,s.ay,s.az,Z a n c] 70 (0,0))
def Y.lt{w g s a n c}(h:Y w g s a n c):g<w.heap.size:=TK h
def Y.go{w w' g s a n c B}(h:Y w g s a n c)(b:Below B w w')(d:g<B):Y w' g s a n c:=(b.block g d).trans h
def Y.new(w:World)(s a n c):Y (w.alloc (.cells #[s.kind,s.curv,s.conic,s.curvX,s.conicX,s.a0,s.a1,s.a2,s.a3,s.p0,s.p1,s.order,s.thick,s.glass,s.semi,s.hole,s.dx,s.dy,s.ax,s.ay,s.az,Z a n c] 70)) w s a n c:=TL w _
def Y.cells{w g s a n c}(h:Y w g s a n c):
 w.cell? (J g)=some (.int .i64 s.kind)/\w.cell? ⟨g,1,none⟩=some (.int .i64 s.curv)/\w.cell? ⟨g,2,none⟩=some (.int .i64 s.conic)/\w.cell? ⟨g,3,none⟩=some (.int .i64 s.curvX)/\w.cell? ⟨g,4,none⟩=some (.int .i64 s.conicX)/\
 w.cell? ⟨g,5,none⟩=some (.int .i64 s.a0)/\w.cell? ⟨g,6,none⟩=some (.int .i64 s.a1)/\w.cell? ⟨g,7,none⟩=some (.int .i64 s.a2)/\w.cell? ⟨g,8,none⟩=some (.int .i64 s.a3)/\w.cell? ⟨g,9,none⟩=some (.int .i64 s.p0)/\w.cell? ⟨g,10,none⟩=some (.int .i64 s.p1)/\
 w.cell? ⟨g,11,none⟩=some (.int .i64 s.order)/\w.cell? ⟨g,12,none⟩=some (.int .i64 s.thick)/\w.cell? ⟨g,13,none⟩=some (.string s.glass)/\w.cell? ⟨g,14,none⟩=some (.int .i64 s.semi)/\w.cell? ⟨g,15,none⟩=some (.int .i64 s.hole)/\
 w.cell? ⟨g,16,none⟩=some (.int .i64 s.dx)/\w.cell? ⟨g,17,none⟩=some (.int .i64 s.dy)/\w.cell? ⟨g,18,none⟩=some (.int .i64 s.ax)/\w.cell? ⟨g,19,none⟩=some (.int .i64 s.ay)/\w.cell? ⟨g,20,none⟩=some (.int .i64 s.az)/\w.cell? ⟨g,21,none⟩=some (.slice a n c):=by
 unfold Y at h;refine⟨?_,?_,?_,?_,?_,?_,?_,?_,?_,?_,?_,?_,?_,?_,?_,?_,?_,?_,?_,?_,?_,?_⟩ <;>simp[World.cell?,h]
def Y.free{w g s a n c}(h:Y w g s a n c)(k):w.frozen? ⟨g,k,none⟩=false:=by
 unfold Y at h;simp[World.frozen?,h]
def I{w A w':World}(h1:Below w w A)(h2:Below A A w'):Below w w w':=h1.trans (h2.mono h1.size)
def gY{w A:World}{o}(h:Below w w A):Below w w (A.alloc o):=h.alloc h.size _
def jA{w A:World}(h:Below w w A):Below w w A.drew:=⟨h.os,h.tape,h.output,h.size,h.block⟩
def qo{w A:World}{p v}(h:Below w w A)(a:w.heap.size<=p.block):Below w w (A.setCell p v):=h.setCell a _
def BB(w:World)(o p q):(((w.alloc o).alloc p).alloc q).heap[w.heap.size]? =some o/\(((w.alloc o).alloc p).alloc q).heap[w.heap.size+1]? =some p/\(((w.alloc o).alloc p).alloc q).heap[w.heap.size+2]? =some q:=by
 obtain⟨a,b⟩:=iN w o p;refine⟨?_,?_,?_⟩
 .rw[TJ _ _ _ (by simp<;>omega)];exact a
 .rw[TJ _ _ _ (by simp)];exact b
 .have:=TL ((w.alloc o).alloc p) q
  simpa using this
def wU(w:World)(o p q):Below w w (((w.alloc o).alloc p).alloc q):=gY (gY (gY (TH _ _)))
def gI{P}{c:Code}{Q:Exit->Act->World->Prop}{a w}(F:World->Prop)(b:F w)(h:∀w',F w'->c.wp P Q a w'):c.wp P Q a w:=h w b
def jJ{P ops l}{Q:Exit->Act->World->Prop}{a w}(F:World->Prop)(b:F w)(h:∀w',F w'->wpList P ops Q l a w'):wpList P ops Q l a w:=h w b
def vS(w:World)(g:Nat)(s:gW)(a:Option Addr)(n c:Nat):World:=((((((((((((((((((((((w.setCell (J g) (.int .i64 s.kind)).setCell ⟨g,1,none⟩ (.int .i64 s.curv)).setCell ⟨g,2,none⟩ (.int .i64 s.conic)).setCell ⟨g,3,none⟩ (.int .i64 s.curvX)).setCell ⟨g,4,none⟩ (.int .i64 s.conicX)).setCell ⟨g,5,none⟩ (.int .i64 s.a0)).setCell ⟨g,6,none⟩ (.int .i64 s.a1)).setCell ⟨g,7,none⟩ (.int .i64 s.a2)).setCell ⟨g,8,none⟩ (.int .i64 s.a3)).setCell ⟨g,9,none⟩ (.int .i64 s.p0)).setCell ⟨g,10,none⟩ (.int .i64 s.p1)).setCell ⟨g,11,none⟩ (.int .i64 s.order)).setCell ⟨g,12,none⟩ (.int .i64 s.thick)).setCell ⟨g,13,none⟩ (.string s.glass)).setCell ⟨g,14,none⟩ (.int .i64 s.semi)).setCell ⟨g,15,none⟩ (.int .i64 s.hole)).setCell ⟨g,16,none⟩ (.int .i64 s.dx)).setCell ⟨g,17,none⟩ (.int .i64 s.dy)).setCell ⟨g,18,none⟩ (.int .i64 s.ax)).setCell ⟨g,19,none⟩ (.int .i64 s.ay)).setCell ⟨g,20,none⟩ (.int .i64 s.az)).setCell ⟨g,21,none⟩ (.slice a n c))
def Y.stored{w g cs}(h:w.heap[g]? =some (.cells cs 70 (0,0)))(b:cs.size=22)(s a n c):Y (vS w g s a n c) g s a n c:=by
 obtain⟨l,rfl⟩:∃l:List Value,cs=l.toArray:=⟨cs.toList,by simp⟩
 have b:l.length=22:=by simpa using b
 match l,b with
 |[x0,x1,x2,x3,x4,x5,x6,x7,x8,x9,x10,x11,x12,x13,x14,x15,x16,x17,x18,x19,x20,x21],_=>
  have k:=(gG (gG (gG (gG (gG (gG (gG (gG (gG (gG (gG (gG (gG (gG (gG (gG (gG (gG (gG (gG (gG (gG h 0 (.int .i64 s.kind)) 1 (.int .i64 s.curv)) 2 (.int .i64 s.conic)) 3 (.int .i64 s.curvX)) 4 (.int .i64 s.conicX)) 5 (.int .i64 s.a0)) 6 (.int .i64 s.a1)) 7 (.int .i64 s.a2)) 8 (.int .i64 s.a3)) 9 (.int .i64 s.p0)) 10 (.int .i64 s.p1)) 11 (.int .i64 s.order)) 12 (.int .i64 s.thick)) 13 (.string s.glass)) 14 (.int .i64 s.semi)) 15 (.int .i64 s.hole)) 16 (.int .i64 s.dx)) 17 (.int .i64 s.dy)) 18 (.int .i64 s.ax)) 19 (.int .i64 s.ay)) 20 (.int .i64 s.az)) 21 (.slice a n c));simp only[bK,aZ,aW]at k;exact k
def vS.other{w g d o}(h:w.heap[d]? =some o)(b:g≠d)(s a n c):(vS w g s a n c).heap[d]? =some o:=by
 unfold vS;exact(gF (gF (gF (gF (gF (gF (gF (gF (gF (gF (gF (gF (gF (gF (gF (gF (gF (gF (gF (gF (gF (gF h (J g) b _) ⟨g,1,none⟩ b _) ⟨g,2,none⟩ b _) ⟨g,3,none⟩ b _) ⟨g,4,none⟩ b _) ⟨g,5,none⟩ b _) ⟨g,6,none⟩ b _) ⟨g,7,none⟩ b _) ⟨g,8,none⟩ b _) ⟨g,9,none⟩ b _) ⟨g,10,none⟩ b _) ⟨g,11,none⟩ b _) ⟨g,12,none⟩ b _) ⟨g,13,none⟩ b _) ⟨g,14,none⟩ b _) ⟨g,15,none⟩ b _) ⟨g,16,none⟩ b _) ⟨g,17,none⟩ b _) ⟨g,18,none⟩ b _) ⟨g,19,none⟩ b _) ⟨g,20,none⟩ b _) ⟨g,21,none⟩ b _)
def Below.put22{B w w' g}(h:Below B w w')(b:B<=g)(s a n c):Below B w (vS w' g s a n c):=by
 unfold vS;exact((((((((((((((((((((((h.setCell b _).setCell b _).setCell b _).setCell b _).setCell b _).setCell b _).setCell b _).setCell b _).setCell b _).setCell b _).setCell b _).setCell b _).setCell b _).setCell b _).setCell b _).setCell b _).setCell b _).setCell b _).setCell b _).setCell b _).setCell b _).setCell b _)
def Y.range{w g s a n c}(h:Y w g s a n c):w.rangeAt g 0 [s.kind,s.curv,s.conic,s.curvX,s.conicX,s.a0,s.a1,s.a2,s.a3,s.p0,s.p1,s.order,s.thick,s.glass,s.semi,s.hole,s.dx,s.dy,s.ax,s.ay,s.az,Z a n c]:=by
 intro j v b;unfold Y at h;simp only[World.cell?,h,aV];simpa using b
def Tryz.infoSurf:(prog.info? 70).map (·.size)=some 22:=by kernel_rfl
def gO{ops b d e w}{Q:Exit->Act->World->Prop}{g s a n c}(h:Y w g s a n c)(f:d.guard=none)(x)(j:d.op=.load 70 x)(k:e.eval x=.pointer (J g))(i:wpList prog ops Q b (e.put d.dst (.agg #[s.kind,s.curv,s.conic,s.curvX,s.conicX,s.a0,s.a1,s.a2,s.a3,s.p0,s.p1,s.order,s.thick,s.glass,s.semi,s.hole,s.dx,s.dy,s.ax,s.ay,s.az,Z a n c])) w):wpList prog ops Q (d::b) e w:=
 wpList_load_mid f 70 x j g 0 k [s.kind,s.curv,s.conic,s.curvX,s.conicX,s.a0,s.a1,s.a2,s.a3,s.p0,s.p1,s.order,s.thick,s.glass,s.semi,s.hole,s.dx,s.dy,s.ax,s.ay,s.az,Z a n c] _ h.range underlying70 rfl Tryz.infoSurf i
def hE{ops b e d w}{Q:Exit->Act->World->Prop}{g cs}(s a n c)(h:w.heap[g]? =some (.cells cs 70 (0,0)))(k:cs.size=22)(i:e.guard=none)(x y)(m:e.op=.store 70 x y)(o:d.eval x=.pointer (J g))(p:d.eval y=.agg #[s.kind,s.curv,s.conic,s.curvX,s.conicX,s.a0,s.a1,s.a2,s.a3,s.p0,s.p1,s.order,s.thick,s.glass,s.semi,s.hole,s.dx,s.dy,s.ax,s.ay,s.az,Z a n c])(l:wpList prog ops Q b (d.put e.dst undef) (vS w g s a n c)):wpList prog ops Q (e::b) d w:=
 wpList_store_mid i 70 x y m g 0 _ o p (fun j f=>by
  have f:j<22:=f
  simp[World.cell?,World.frozen?,h,k,f]) Tryz.infoSurf (by simp[Value.oneCell']) l
def lu{fn p tmps w g s a n c}(h:fn.results=#[.cell p 70])(b:tmps.getD p undef=.pointer (J g))(d:Y w g s a n c):
 (results fn tmps).run prog w=.ok (.agg #[s.kind,s.curv,s.conic,s.curvX,s.conicX,s.a0,s.a1,s.a2,s.a3,s.p0,s.p1,s.order,s.thick,s.glass,s.semi,s.hole,s.dx,s.dy,s.ax,s.ay,s.az,Z a n c]) w:=
 results_cell_row h tmps w g 70 _ (0,0) _ b d underlying70 rfl Tryz.infoSurf
def lY{fn p u tmps w g s a n c v}(h:fn.results=#[.cell p 70,.tmp u])(b:tmps.getD p undef=.pointer (J g))(e:tmps.getD u undef=v)(d:Y w g s a n c):
 (results fn tmps).run prog w=.ok (.tuple #[.agg #[s.kind,s.curv,s.conic,s.curvX,s.conicX,s.a0,s.a1,s.a2,s.a3,s.p0,s.p1,s.order,s.thick,s.glass,s.semi,s.hole,s.dx,s.dy,s.ax,s.ay,s.az,Z a n c],v]) w:=by
 rw[results_cell_tmp h,b,e];simp only[asAddr,cT,bU];rw[run_loadVar_row w g 70 70 _ (0,0) _ d underlying70 rfl Tryz.infoSurf];rfl
def pb(c:Int):Bool:=decide ((65≤c∧c≤90)∨(97≤c∧c≤122)∨(48≤c∧c≤57)∨c=45∨c=95)
def kI(s:ByteArray):Bool:=(s.data.toList.all fun c=>pb (c.toNat:Int)) && decide (1≤s.size) && decide (s.size≤16)
theorem xJ(c):(pb c=true∧((65≤c∧c≤90∧(c==45)=false∧(c==95)=false)∨(97≤c∧c≤122∧(c==45)=false∧(c==95)=false)∨(48≤c∧c≤57∧(c==45)=false∧(c==95)=false)∨(45≤c∧c≤45∧(c==45)=true∧(c==95)=false)∨(95≤c∧c≤95∧(c==45)=false∧(c==95)=true)))∨
 (pb c=false∧(c==45)=false∧(c==95)=false∧(c<48∨(¬c≤57∧c<65)∨(¬c≤90∧c<97)∨ ¬c≤122)):=by
 by_cases h:(65≤c∧c≤90)∨(97≤c∧c≤122)∨(48≤c∧c≤57)∨c=45∨c=95
 ·refine Or.inl ⟨aP h,?_⟩
  simp only [ak,dz];omega
 ·refine Or.inr ⟨aw h,?_⟩
  simp only [ak];omega
theorem zb(c w):Calls prog 162 #[.int .u8 c] w (iZ w (.bool (pb c))):=by
 rcases xJ c with ⟨b,⟨h1,h2,h3,a⟩|⟨h1,h2,h3,a⟩|⟨h1,h2,h3,a⟩|⟨h1,h2,h3,a⟩|⟨h1,h2,h3,a⟩⟩|⟨b,h3,a,h1|⟨h1,h2⟩|⟨h1,h2⟩|h1⟩
 all_goals
  rw [b];clear b
  go_enter func162,ntmps162
  go_wp2;go_ret;exact ⟨by simp<;>omega,TH _ _⟩
theorem Eh{s:ByteArray}{f k}(h:k<s.size)(h0:(s.data.toList.take k).all f=true):(s.data.toList.take (k+1)).all f=f s[k]:=by
 rw [dV (by simpa using h),er,h0];simp;rfl
theorem Jn{s:ByteArray}{f k}(h:k<s.size)(h0:f s[k]=false):s.data.toList.all f=false:=by
 rw [dw];intro a
 have:=an.1 a s[k] (by
  have:s[k]=s.data.toList[k]'(by simpa using h):=rfl
  rw [this];exact cW _)
 rw [h0] at this;cases this
theorem ze(s w)(v:s.size≤9223372036854775807):Calls prog 120 #[.string s] w (iZ w (.bool (kI s))):=by
 go_enter func120,ntmps120
 go_wp2_with fail
 go_loopw [6] (fun j wr=>∃k:Nat,k≤s.size∧j= .int .i64 (k:Int)∧((s.data.toList.take k).all fun c=>pb (c.toNat:Int))=true∧Below w.heap.size w wr) (fun j _=>s.size - (intOf j).toNat)
 case atStart=>exact ⟨0,aA _,rfl,rfl,TH _ _⟩
 case round=>
  obtain ⟨k,u,rfl,n,m⟩:=hrel;have l:=O n;have i:=O m;clear n m
  by_cases h:k<s.size
  ·have a:=Eh h l.out
   have p:=O a;clear a
   by_cases b:pb (s[k].toNat:Int)=true
   ·have d:=O b;clear b
    go_wp2_with ((with_reducible refine (zb _ _).mono ?_);rintro e t ⟨g,f⟩;rw [d.out] at g;subst g)
    go_roundw
    case rel=>exact ⟨k+1,by omega,by go_num,p.out.trans d.out,I i.out f⟩
    case measure=>simp [intOf];omega
   ·have b:pb (s[k].toNat:Int)=false:=by simpa using b
    have d:=O b;clear b
    go_wp2_with ((with_reducible refine (zb _ _).mono ?_);rintro e t ⟨g,f⟩;rw [d.out] at g;subst g)
    go_ret;refine ⟨?_,I i.out f⟩;unfold kI;rw [Jn h d.out];rfl
  ·obtain rfl:k=s.size:=by omega
   have h1:(s.data.toList.all fun c=>pb (c.toNat:Int))=true:=by
    have:=l.out
    rwa [aM (by simp)] at this
   have o:=O h1;clear h1
   by_cases q:1≤s.size<;>by_cases r:s.size≤16
   all_goals
    go_wp2
    all_goals
     go_ret;refine ⟨?_,i.out⟩;unfold kI;rw [o.out];simp [q,r] <;>omega
theorem pA(s w)(r:s.size≤9223372036854775807):Calls prog 107 #[.string s] w (iZ w (.bool (kI s))):=by
 go_enter func107,ntmps107
 go_wp2_with fail
 go_loopw [3] (fun h wr=>∃k:Nat,k≤s.size∧h= .int .i64 (k:Int)∧((s.data.toList.take k).all fun c=>pb (c.toNat:Int))=true∧Below w.heap.size w wr) (fun h _=>s.size - (intOf h).toNat)
 case atStart=>exact ⟨0,aA _,rfl,rfl,TH _ _⟩
 case round=>
  obtain ⟨k,q,rfl,l,j⟩:=hrel;have i:=O l;have f:=O j;clear l j
  by_cases e:k<s.size
  ·have a:=Eh e i.out
   have n:=O a;clear a
   rcases xJ (s[k].toNat:Int) with ⟨d,⟨h1,h2,h3,b⟩|⟨h1,h2,h3,b⟩|⟨h1,h2,h3,b⟩|⟨h1,h2,h3,b⟩|⟨h1,h2,h3,b⟩⟩|⟨d,h3,b,h1|⟨h1,h2⟩|⟨h1,h2⟩|h1⟩
   iterate 5
    ·have g:=O d;clear d
     go_wp2
     go_roundw
     case rel=>exact ⟨k+1,by omega,by go_num,n.out.trans g.out,f.out⟩
     case measure=>simp [intOf];omega
   all_goals
    have g:=O d;clear d;go_wp2
    try (any_goals (exfalso;rename_i hx;simp at hx;omega))
    go_ret;refine ⟨?_,f.out⟩;unfold kI;rw [Jn e g.out];rfl
  ·obtain rfl:k=s.size:=by omega
   have h1:(s.data.toList.all fun c=>pb (c.toNat:Int))=true:=by
    have:=i.out
    rwa [aM (by simp)] at this
   have m:=O h1;clear h1
   by_cases o:1≤s.size<;>by_cases p:s.size≤16
   all_goals
    go_wp2
    all_goals
     go_ret;refine ⟨?_,f.out⟩;unfold kI;rw [m.out];simp [o,p] <;>omega
structure jt where
 (s:gW) (a:Option Addr) (n c:Nat)
instance {s:gW} {a:Option Addr} {n c:Nat}:CoeDep jt ⟨s,a,n,c⟩ (Array Value):=⟨#[.int .i64 s.kind,.int .i64 s.curv,.int .i64 s.conic,.int .i64 s.curvX,.int .i64 s.conicX,.int .i64 s.a0,.int .i64 s.a1,.int .i64 s.a2,.int .i64 s.a3,.int .i64 s.p0,.int .i64 s.p1,.int .i64 s.order,.int .i64 s.thick,.string s.glass,.int .i64 s.semi,.int .i64 s.hole,.int .i64 s.dx,.int .i64 s.dy,.int .i64 s.ax,.int .i64 s.ay,.int .i64 s.az,.slice a n c]⟩
def jr(b a:Int)(zs:List Int):Bool:=zs.any fun z=>decide (z<b)||decide (a<z)
def Ee{f:Int->Bool}{zs:List Int}{k}(h:k<zs.length)(h0:(zs.take k).any f=false):(zs.take (k+1)).any f=f (zs.getD k 0):=by
 rw[dV h,eo,h0];simp[ah,h]
def xH(b a z:Int)(d c w)(f:w.cell? (J d)=some (.int .i64 b))(e:w.cell? (J c)=some (.int .i64 a)):
 Calls prog 239 #[z,U d,U c] w (iZ w (.bool (decide (z<b)||decide (a<z)))):=by
 by_cases h1:z<b
 .go_enter func239,ntmps239
  go_wp2;go_ret;exact⟨by simp[h1],TH _ _⟩
 .by_cases h2:a<z
  all_goals
   go_enter func239,ntmps239
   go_wp2;go_ret;exact⟨by simp[h1,h2],TH _ _⟩
def Jl(w:World)(b:Bool)(e:Ending)(w':World):Prop:=∃r:Int,e=.returned (.int .i64 r)/\decide (0<=r)=b/\Below w w w'
def AZ(f d zs a n c o m)(w:World)(u:SL w w a n c zs)(X:n<=1000000)(K:w.cell? (J o)=some (.int .i64 f))(H:w.cell? (J m)=some (.int .i64 d))(S:o<w.heap.size)(lh:m<w.heap.size):
 Calls prog 259 #[Z a n c,.func (.func 239) #[] #[U o,U m]] w (Jl w (jr f d zs)):=by
 have l:=u.len;have Q:=O u;have P:=O K;have N:=O H;have i:=O l;clear u K H l
 go_enter func259,ntmps259
 go_wp2_with fail
 go_loopw [8] (fun v wr=>∃k:Nat,k<=n/\v=.int .i64 (k:Int)/\jr f d (zs.take k)=false/\Below w w wr) (fun v _=>n-(intOf v).toNat)
 case atStart=>exact⟨0,aA _,rfl,rfl,TH _ _⟩
 case round=>
  obtain⟨k,W,rfl,L,E⟩:=hrel;have D:=O L;have h:=O E;clear L E
  by_cases t:k<n
  .obtain⟨b,off,rfl,hlt,F⟩:=(Q.go h).at (by omega)
   have c0:=F k t;clear F;have g:=Ee (k:=k) (by rw[<- i];exact t) D;generalize zs.getD k 0=z at*;have c1:=(h.cell (p:=J o) S).trans P;have c2:=(h.cell (p:=J m) lh).trans N;have y:=O c1;have A:=O c2;clear c1 c2;have C:=O g;clear g
   by_cases q:(decide (z<f)||decide (d<z))=true
   .have r:=O q;clear q
    go_wp2_with fail
    refine(xH f d z o m _ y A).mono ?_;rintro e T ⟨s,j⟩;rw[r]at s;subst s;go_wp2;go_ret;refine⟨(k:Int),rfl,?_,h.trans (j.mono h.size)⟩;rw[aP (by omega)];have h1:=C.out;rw[r]at h1
    symm
    unfold jr;obtain⟨x,R,M⟩:=cw.1 h1;exact cw.2 ⟨x,List.mem_of_mem_take R,M⟩
   .have q:(decide (z<f)||decide (d<z))=false:=by simpa using q
    have r:=O q;clear q
    go_wp2_with fail
    refine(xH f d z o m _ y A).mono ?_;rintro e T ⟨s,j⟩;rw[r]at s;subst s;have B:=O (h.trans (j.mono h.size));clear j
    go_wp2_with fail
    go_roundw
    case rel=>exact⟨k+1,by omega,by go_num,C.trans r,B⟩
    case measure=>simp[intOf];omega
  .obtain rfl:k=n:=by omega
   go_wp2;go_ret;refine⟨-1,rfl,?_,h⟩;have h1:=D.out;rw[i,bf]at h1;rw[h1];rfl
def Ef(f b zs a n c h g)(w:World)(q:SL w w a n c zs)(p:n<=1000000)(l:w.cell? (J h)=some (.int .i64 f))(k:w.cell? (J g)=some (.int .i64 b))(s:h<w.heap.size)(lh:g<w.heap.size):
 Calls prog 238 #[Z a n c,.func (.func 239) #[] #[U h,U g]] w (iZ w (.bool (jr f b zs))):=by
 have o:=O l;have m:=O k;clear l k
 go_enter func238,ntmps238
 go_wp2_with fail
 refine(AZ f b zs a n c h g _ q p o m s lh).mono ?_;rintro e t ⟨r,rfl,d,j⟩
 by_cases h0:0<=r
 .rw[aP h0]at d
  have i:=O d;clear d;go_wp2;go_ret;exact⟨by rw[<- i];rfl,j⟩
 .rw[aw h0]at d
  have i:=O d;clear d;have h1:decide (0<=r)=false:=aw h0;go_wp2;go_ret;exact⟨by rw[<- i];rfl,j⟩
def pz(f d:Int)(zs a n c)(w:World)(o:SL w w a n c zs)(m:n<=1000000):
 Calls prog 200 #[f,d,Z a n c] w (iZ w (.bool (!jr f d zs))):=by
 obtain⟨i,j⟩:=iN w (.cells #[f] 3) (.cells #[d] 3);have g:=iH (w:=w) (.cells #[f] 3) (.cells #[d] 3);have k:=O i;have l:=O j;have h:=O g;clear i j g
 go_enter func200,ntmps200
 go_wp2_with fail
 refine(Ef f d zs a n c w (w+1) _ (o.go h) m ((gA k 0).trans rfl) ((gA l 0).trans rfl) (by simp<;>omega) (by simp)).mono ?_;rintro e p ⟨rfl,g⟩;generalize jr f d zs=b at*;go_wp2;go_ret;exact⟨rfl,h.trans (g.mono h.size)⟩
def qh(d:Int)(zs a n c)(w:World)(h:SL w w a n c zs)(g:n<=1000000)(h0:0<=d)(h1:d<=9223372036854775807):
 Calls prog 204 #[d,Z a n c] w (iZ w (.bool (!jr (-d) d zs))):=by
 go_enter func204,ntmps204
 go_wp2_with fail
 refine(pz (-d) d zs a n c _ h g).mono ?_;rintro e i ⟨rfl,f⟩;generalize(!jr (-d) d zs)=b at*;go_wp2;go_ret;exact⟨rfl,f⟩
end Go.Proofs.YtgohdcccfkjooaaGreatDoor
