import Derived.Test.YtgohdcccfkjooaaGreatDoorQBD
namespace Go.Proofs.YtgohdcccfkjooaaGreatDoor
set_option linter.all false
set_option maxRecDepth 100000
set_option maxHeartbeats 6400000
open Go.Proofs.Tryz Go.ChangeShapes Go.WideShapes Go.ChangeAt Go.RowKit
section
variable{P:Program}{H:Type}{enc:TypeId×Value->H}{w:World}{base:Nat}{sp:Nat->Bool}{held:Bool}{t e:TypeId}{c:Value}{cs:List Value}
def vf(a:P.underlying t=some (.int .u8))(h:Rd enc P w base sp held t [c]):∃z,c=.int .u8 z/\og z:=by
 obtain⟨z,e,h0,h1⟩:=xz a h;refine⟨z,by simpa using e,?_⟩;simp[IntKind.min,IntKind.max,IntKind.signed,IntKind.bits]at h0 h1;unfold og;omega
def SQ(a:P.underlying t=some (.int .i8))(h:Rd enc P w base sp held t [c]):∃z,c=.int .i8 z/\tU z:=by
 obtain⟨z,e,h0,h1⟩:=xz a h;refine⟨z,by simpa using e,?_⟩;simp[IntKind.min,IntKind.max,IntKind.signed,IntKind.bits]at h0 h1;unfold tU;omega
def qQ{n:Nat}(d:P.underlying t=some (.array n e))(c:P.underlying e=some (.int .i8))(a:P.cellsOf e=1)(b:P.cellsOf t=n)(h:Rd enc P w base sp held t cs)(i:Nat)(hi:i<n):∃z,cs[i]? =some (.int .i8 z)/\tU z:=by
 obtain⟨z,e,h0,h1⟩:=OU d c a b h i hi;refine⟨z,e,?_⟩;simp[IntKind.min,IntKind.max,IntKind.signed,IntKind.bits]at h0 h1;unfold tU;omega
def Ja(a:P.underlying t=some (.int .i16))(h:Rd enc P w base sp held t [c]):∃z,c=.int .i16 z/\qD z:=by
 obtain⟨z,e,h0,h1⟩:=xz a h;refine⟨z,by simpa using e,?_⟩;simp[IntKind.min,IntKind.max,IntKind.signed,IntKind.bits]at h0 h1;unfold qD;omega
def yU{n:Nat}(d:P.underlying t=some (.array n e))(c:P.underlying e=some (.int .i16))(a:P.cellsOf e=1)(b:P.cellsOf t=n)(h:Rd enc P w base sp held t cs)(i:Nat)(hi:i<n):∃z,cs[i]? =some (.int .i16 z)/\qD z:=by
 obtain⟨z,e,h0,h1⟩:=OU d c a b h i hi;refine⟨z,e,?_⟩;simp[IntKind.min,IntKind.max,IntKind.signed,IntKind.bits]at h0 h1;unfold qD;omega
def RH(a:P.underlying t=some (.int .u16))(h:Rd enc P w base sp held t [c]):∃z,c=.int .u16 z/\Ci z:=by
 obtain⟨z,e,h0,h1⟩:=xz a h;refine⟨z,by simpa using e,?_⟩;simp[IntKind.min,IntKind.max,IntKind.signed,IntKind.bits]at h0 h1;unfold Ci;omega
end
variable{H:Type}{enc:TypeId×Value->H}{w:World}{base:Nat}{sp:Nat->Bool}{held:Bool}{cs:List Value}
def RI(h:Rd enc prog w base sp held 153 cs):∃x,Rg (fun b=>b<w.heap.size) w x cs:=by
 have hl:cs.length=22:=(DY underlying153 h).trans (by kernel_rfl)
 match cs,hl with
 |[c0,c1,c2,c3,c4,c5,c6,c7,c8,c9,c10,c11,c12,c13,c14,c15,c16,c17,c18,c19,c20,c21],_=>
  obtain⟨kind,rfl,m⟩:=vf underlying5 (iO underlying153 h 0 (ty:=5) (off:=0) (n:=1) rfl (by kernel_rfl));obtain⟨v0,E,a1⟩:=yU underlying147 underlying25 (by kernel_rfl) (by kernel_rfl) (iO underlying153 h 1 (ty:=147) (off:=1) (n:=2) rfl (by kernel_rfl)) 0 (by omega)
  obtain rfl:c1=.int .i16 v0:=by simpa using E
  obtain⟨v1,F,a2⟩:=yU underlying147 underlying25 (by kernel_rfl) (by kernel_rfl) (iO underlying153 h 1 (ty:=147) (off:=1) (n:=2) rfl (by kernel_rfl)) 1 (by omega)
  obtain rfl:c2=.int .i16 v1:=by simpa using F
  obtain⟨k0,A,T⟩:=yU underlying147 underlying25 (by kernel_rfl) (by kernel_rfl) (iO underlying153 h 2 (ty:=147) (off:=3) (n:=2) rfl (by kernel_rfl)) 0 (by omega)
  obtain rfl:c3=.int .i16 k0:=by simpa using A
  obtain⟨k1,B,W⟩:=yU underlying147 underlying25 (by kernel_rfl) (by kernel_rfl) (iO underlying153 h 2 (ty:=147) (off:=3) (n:=2) rfl (by kernel_rfl)) 1 (by omega)
  obtain rfl:c4=.int .i16 k1:=by simpa using B
  obtain⟨h0,u,P⟩:=qQ underlying149 underlying148 (by kernel_rfl) (by kernel_rfl) (iO underlying153 h 3 (ty:=149) (off:=5) (n:=4) rfl (by kernel_rfl)) 0 (by omega)
  obtain rfl:c5=.int .i8 h0:=by simpa using u
  obtain⟨h1,v,Q⟩:=qQ underlying149 underlying148 (by kernel_rfl) (by kernel_rfl) (iO underlying153 h 3 (ty:=149) (off:=5) (n:=4) rfl (by kernel_rfl)) 1 (by omega)
  obtain rfl:c6=.int .i8 h1:=by simpa using v
  obtain⟨h2,y,R⟩:=qQ underlying149 underlying148 (by kernel_rfl) (by kernel_rfl) (iO underlying153 h 3 (ty:=149) (off:=5) (n:=4) rfl (by kernel_rfl)) 2 (by omega)
  obtain rfl:c7=.int .i8 h2:=by simpa using y
  obtain⟨h3,z,S⟩:=qQ underlying149 underlying148 (by kernel_rfl) (by kernel_rfl) (iO underlying153 h 3 (ty:=149) (off:=5) (n:=4) rfl (by kernel_rfl)) 3 (by omega)
  obtain rfl:c8=.int .i8 h3:=by simpa using z
  obtain⟨p0,C,X⟩:=qQ underlying150 underlying148 (by kernel_rfl) (by kernel_rfl) (iO underlying153 h 4 (ty:=150) (off:=9) (n:=2) rfl (by kernel_rfl)) 0 (by omega)
  obtain rfl:c9=.int .i8 p0:=by simpa using C
  obtain⟨p1,D,a0⟩:=qQ underlying150 underlying148 (by kernel_rfl) (by kernel_rfl) (iO underlying153 h 4 (ty:=150) (off:=9) (n:=2) rfl (by kernel_rfl)) 1 (by omega)
  obtain rfl:c10=.int .i8 p1:=by simpa using D
  obtain⟨order,rfl,j⟩:=SQ underlying148 (iO underlying153 h 5 (ty:=148) (off:=11) (n:=1) rfl (by kernel_rfl));obtain⟨thick,rfl,k⟩:=Ja underlying25 (iO underlying153 h 6 (ty:=25) (off:=12) (n:=1) rfl (by kernel_rfl));obtain⟨glass,rfl,i⟩:=vf underlying5 (iO underlying153 h 7 (ty:=5) (off:=13) (n:=1) rfl (by kernel_rfl));obtain⟨semi,rfl,o⟩:=vf underlying5 (iO underlying153 h 8 (ty:=5) (off:=14) (n:=1) rfl (by kernel_rfl));obtain⟨hole,rfl,l⟩:=vf underlying5 (iO underlying153 h 9 (ty:=5) (off:=15) (n:=1) rfl (by kernel_rfl));obtain⟨b0,p,H⟩:=qQ underlying151 underlying148 (by kernel_rfl) (by kernel_rfl) (iO underlying153 h 10 (ty:=151) (off:=16) (n:=5) rfl (by kernel_rfl)) 0 (by omega)
  obtain rfl:c16=.int .i8 b0:=by simpa using p
  obtain⟨b1,q,K⟩:=qQ underlying151 underlying148 (by kernel_rfl) (by kernel_rfl) (iO underlying153 h 10 (ty:=151) (off:=16) (n:=5) rfl (by kernel_rfl)) 1 (by omega)
  obtain rfl:c17=.int .i8 b1:=by simpa using q
  obtain⟨b2,r,L⟩:=qQ underlying151 underlying148 (by kernel_rfl) (by kernel_rfl) (iO underlying153 h 10 (ty:=151) (off:=16) (n:=5) rfl (by kernel_rfl)) 2 (by omega)
  obtain rfl:c18=.int .i8 b2:=by simpa using r
  obtain⟨b3,s,M⟩:=qQ underlying151 underlying148 (by kernel_rfl) (by kernel_rfl) (iO underlying153 h 10 (ty:=151) (off:=16) (n:=5) rfl (by kernel_rfl)) 3 (by omega)
  obtain rfl:c19=.int .i8 b3:=by simpa using s
  obtain⟨b4,t,N⟩:=qQ underlying151 underlying148 (by kernel_rfl) (by kernel_rfl) (iO underlying153 h 10 (ty:=151) (off:=16) (n:=5) rfl (by kernel_rfl)) 4 (by omega)
  obtain rfl:c20=.int .i8 b4:=by simpa using t
  obtain⟨d,f,e,g⟩:=AQ underlying24 underlying5 (by kernel_rfl) (iO underlying153 h 11 (ty:=24) (off:=21) (n:=1) rfl (by kernel_rfl))
  obtain rfl:c21=.slice d.a d.n d.c:=by simpa using e
  exact⟨⟨kind,v0,v1,k0,k1,h0,h1,h2,h3,p0,p1,order,thick,glass,semi,hole,b0,b1,b2,b3,b4,f⟩,_,_,_,rfl,g,⟨m,a1,a2,T,W,P,Q,R,S,X,a0,j,k,i,o,l,H,K,L,M,N⟩⟩
def RJ(h:Rd enc prog w base sp held 206 cs):∃x,Rp (fun b=>b<w.heap.size) w x cs:=by
 have a:cs.length=3:=(DY underlying206 h).trans (by kernel_rfl)
 match cs,a with
 |[c0,c1,c2],_=>
  obtain⟨s,rfl,d⟩:=vf underlying5 (iO underlying206 h 0 (ty:=5) (off:=0) (n:=1) rfl (by kernel_rfl));obtain⟨q,rfl,c⟩:=vf underlying5 (iO underlying206 h 1 (ty:=5) (off:=1) (n:=1) rfl (by kernel_rfl));obtain⟨v,rfl,e⟩:=Ja underlying25 (iO underlying206 h 2 (ty:=25) (off:=2) (n:=1) rfl (by kernel_rfl));exact⟨⟨s,q,v⟩,rfl,d,c,e⟩
def Qc(h:Rd enc prog w base sp held 204 cs):∃x,JA (fun b=>b<w.heap.size) w x cs:=by
 obtain⟨p,l,rfl,a⟩:=I9 (m:=3) underlying204 (by kernel_rfl) (by omega) (fun c d h2=>RJ h2) h;exact⟨l,_,_,_,rfl,a⟩
def RK(h:Rd enc prog w base sp held 28 cs):∃x s f v k,cs=lI x s f v k/\xU (fun b=>b<w.heap.size) w x s f v k:=by
 have B:cs.length=9:=(DY underlying28 h).trans (by kernel_rfl)
 match cs,B with
 |[c0,c1,c2,c3,c4,c5,c6,c7,c8],_=>
  obtain⟨o,E,z,L⟩:=I9 (m:=22) underlying22 (by kernel_rfl) (by omega) (fun r t h2=>RI h2) (iO underlying28 h 0 (ty:=22) (off:=0) (n:=1) rfl (by kernel_rfl))
  obtain rfl:c0=.slice o.a o.n o.c:=by simpa using z
  obtain⟨stop,rfl,i⟩:=vf underlying5 (iO underlying28 h 1 (ty:=5) (off:=1) (n:=1) rfl (by kernel_rfl));obtain⟨far,rfl,q⟩:=RH underlying23 (iO underlying28 h 2 (ty:=23) (off:=2) (n:=1) rfl (by kernel_rfl));obtain⟨pupil,rfl,e⟩:=vf underlying5 (iO underlying28 h 3 (ty:=5) (off:=3) (n:=1) rfl (by kernel_rfl));obtain⟨j,C,u,H⟩:=AQ underlying24 underlying5 (by kernel_rfl) (iO underlying28 h 4 (ty:=24) (off:=4) (n:=1) rfl (by kernel_rfl))
  obtain rfl:c4=.slice j.a j.n j.c:=by simpa using u
  obtain⟨p,F,A,M⟩:=AQ underlying24 underlying5 (by kernel_rfl) (iO underlying28 h 5 (ty:=24) (off:=5) (n:=1) rfl (by kernel_rfl))
  obtain rfl:c5=.slice p.a p.n p.c:=by simpa using A
  obtain⟨prim,rfl,g⟩:=vf underlying5 (iO underlying28 h 6 (ty:=5) (off:=6) (n:=1) rfl (by kernel_rfl));obtain⟨image,rfl,d⟩:=Ja underlying25 (iO underlying28 h 7 (ty:=25) (off:=7) (n:=1) rfl (by kernel_rfl));obtain⟨l,D,y,K⟩:=I9 (m:=1) underlying26 (by kernel_rfl) (by omega) (fun r t h2=>Qc h2) (iO underlying28 h 8 (ty:=26) (off:=8) (n:=1) rfl (by kernel_rfl))
  obtain rfl:c8=.slice l.a l.n l.c:=by simpa using y
  exact⟨⟨E,stop,far,pupil,C,F,prim,image,D⟩,o,j,p,l,rfl,⟨L,H,M,K,i,q,e,g,d⟩⟩
def SR(h:Rd enc prog w base sp held 30 cs):∃x c s f v k,cs=qd x c s f v k/\xU (fun b=>b<w.heap.size) w x s f v k/\og c:=by
 have a:cs.length=10:=(DY underlying30 h).trans (by kernel_rfl)
 match cs,a with
 |[c0,c1,c2,c3,c4,c5,c6,c7,c8,c9],_=>
  have g:=RK (cs:=[c0,c1,c2,c3,c4,c5,c6,c7,c8]) (iO underlying30 h 0 (ty:=28) (off:=0) (n:=9) rfl (by kernel_rfl));obtain⟨c,rfl,d⟩:=vf underlying5 (iO underlying30 h 1 (ty:=5) (off:=9) (n:=1) rfl (by kernel_rfl));obtain⟨x,s,f,v,k,el,e⟩:=g;refine⟨x,c,s,f,v,k,?_,e,d⟩
  show[c0,c1,c2,c3,c4,c5,c6,c7,c8]++[.int .u8 c]=_
  rw[el];rfl
def Qd:∀zs:List Int,zs.length=8->(∀z∈zs,IntKind.u8.has z)-> ∃n:Nat->Int,Value.agg (zs.map (Value.int .u8)).toArray=Nw n/\ ∀i,og (n i)
 |[z0,z1,z2,z3,z4,z5,z6,z7],_,h=>by
  have a:∀z∈ [z0,z1,z2,z3,z4,z5,z6,z7],og z:=fun z b=>by
   have:=h z b;simp[IntKind.has,IntKind.min,IntKind.max,IntKind.signed,IntKind.bits]at this;unfold og;omega
  refine⟨fun i=>match i with|0=>z0|1=>z1|2=>z2|3=>z3|4=>z4|5=>z5|6=>z6|7=>z7|_=>0,rfl,fun i=>?_⟩
  match i with
  |0=>exact a _ (by simp)
  |1=>exact a _ (by simp)
  |2=>exact a _ (by simp)
  |3=>exact a _ (by simp)
  |4=>exact a _ (by simp)
  |5=>exact a _ (by simp)
  |6=>exact a _ (by simp)
  |7=>exact a _ (by simp)
  |_+8=>exact(⟨by omega,by omega⟩:og 0)
def Td(s:gW)(w):(Op.equalIn 10000 64 (.agg #[s.a0,s.a1,s.a2,s.a3]) (.agg #[s.a0,s.a1,s.a2,s.a3])).run prog w=.ok true w:=by
 have h:=sk 9998 (n:=4) (k':=.i64) underlying64 (by kernel_rfl) underlying3 (by kernel_rfl) [s.a0,s.a1,s.a2,s.a3] [s.a0,s.a1,s.a2,s.a3] rfl rfl w;simpa using h
def Te(s:gW)(w):(Op.equalIn 10000 65 (.agg #[s.p0,s.p1]) (.agg #[s.p0,s.p1])).run prog w=.ok true w:=by
 have h:=sk 9998 (n:=2) (k':=.i64) underlying65 (by kernel_rfl) underlying3 (by kernel_rfl) [s.p0,s.p1] [s.p0,s.p1] rfl rfl w;simpa using h
def IP(s xs a b n c d)(w:World)(x:IR w w 3 a n c xs)(y:IR w w 3 b n d xs)(hn:n<=1000000):
 Calls prog 56 #[.agg (⟨s,a,n,c⟩:jt),.agg (⟨s,b,n,d⟩:jt)] w (iZ w (.bool true)):=by
 obtain⟨v,m⟩:=iN w (.cells (⟨s,a,n,c⟩:jt) 70) (.cells (⟨s,b,n,d⟩:jt) 70);have f:=iH (w:=w) (.cells (⟨s,a,n,c⟩:jt) 70) (.cells (⟨s,b,n,d⟩:jt) 70);have t:=O x;have u:=O y;have q:=O v;have r:=O m;have e:=O f;clear x y v m f
 go_enter func56,ntmps56
 go_upto_region 1 with fail
 refine gI (fun p=>Y p w s a n c/\Y p (w+1) s b n d/\Below w w p) ⟨q,r,e⟩ ?_;clear q r e;rintro w1 ⟨h1,h2,f⟩;have j:=h1.lt;have l:=h2.lt;have c1:=h1.cells.2.2.2.2.2.2.2.2.2.2.2.2.2.2.2.2.2.2.2.2.2;have c2:=h2.cells.2.2.2.2.2.2.2.2.2.2.2.2.2.2.2.2.2.2.2.2.2;have g:=O h1;have h:=O h2;have e:=O f;clear h1 h2 f
 go_wp2_with fail
 go_loopw [5] (fun o wr=>∃k:Nat,k<=n/\o=.int .i64 (k:Int)/\Y wr w s a n c/\Y wr (w+1) s b n d/\Below w w wr) (fun o _=>n-(intOf o).toNat)
 case atStart=>exact⟨0,aA _,rfl,g,h,e⟩
 case round=>
  clear c1 c2 g h e j l;obtain⟨k,hk,rfl,h1,h2,f⟩:=hrel;have j:=h1.lt;have l:=h2.lt;have c1:=h1.cells.2.2.2.2.2.2.2.2.2.2.2.2.2.2.2.2.2.2.2.2.2;have c2:=h2.cells.2.2.2.2.2.2.2.2.2.2.2.2.2.2.2.2.2.2.2.2.2;have g:=O h1;have h:=O h2;have e:=O f;clear h1 h2 f
  by_cases i:k<n
  .obtain⟨b1,o1,rfl,l1,x0,x1,x2⟩:=(t.go e).at3 i
   obtain⟨b2,o2,rfl,l2,y0,y1,y2⟩:=(u.go e).at3 i;generalize xs.getD (k*3) 0=p0 at*;generalize xs.getD (k*3+1) 0=p1 at*;generalize xs.getD (k*3+2) 0=p2 at*
   go_wp2_with fail
   go_quiet (fail)
   go_wp2_with fail
   go_roundw
   case rel=>exact⟨k+1,by omega,by go_num,Y.of_dr g,Y.of_dr h,gV e _⟩
   case measure=>simp[intOf];omega
  .obtain rfl:k=n:=by omega
   go_upto_region 8 with fail
   clear c1 c2 t u;obtain⟨k0,k1,k2,k3,k4,k5,k6,k7,k8,k9,P,Q,R,S,T,W,X,a0,a1,a2,a3,a4⟩:=g.cells;obtain⟨j0,j1,j2,j3,j4,j5,j6,j7,j8,j9,z,A,B,C,D,E,F,H,K,L,M,N⟩:=h.cells;have e4:=Td s wr;have m:=Te s wr;clear g h;go_wp2;go_ret;exact⟨rfl,e⟩
def xw(x f v s k f' v' s' k' w)(R:iP (fun b=>b<w.heap.size) w x f v s k)(t:iP (fun b=>b<w.heap.size) w x f' v' s' k'):
 Calls prog 19 #[jG x f v s k,jG x f' v' s' k'] w (iZ w (.bool true)):=by
 obtain⟨fa,fn,fc⟩:=f;obtain⟨va,c,vc⟩:=v;obtain⟨sa,sn,sc⟩:=s;obtain⟨S,kn,T⟩:=k;obtain⟨D,e0,E⟩:=f';obtain⟨M,e7,N⟩:=v';obtain⟨H,e6,L⟩:=s';obtain⟨u,e5,z⟩:=k'
 have ef:fn=e0:=by have h1:=R.fs.1;have h2:=t.fs.1;simp only at h1 h2;omega
 have ev:c=e7:=by have h1:=R.ws.1;have h2:=t.ws.1;simp only at h1 h2;omega
 have es:sn=e6:=by have h1:=R.l.1;have h2:=t.l.1;simp only at h1 h2;omega
 have ek:kn=e5:=by have h1:=R.cf.1;have h2:=t.cf.1;simp only at h1 h2;omega
 subst ef ev es ek;have e9:fn<=1000000:=R.fn;have f2:c<=1000000:=R.wn;have f1:sn<=1000000:=R.sn;have e3:kn<=1000000:=R.kn;obtain⟨B,C⟩:=iN w (.cells (iw x ⟨fa,fn,fc⟩ ⟨va,c,vc⟩ ⟨sa,sn,sc⟩ ⟨S,kn,T⟩).toArray 37) (.cells (iw x ⟨D,fn,E⟩ ⟨M,c,N⟩ ⟨H,sn,L⟩ ⟨u,kn,z⟩).toArray 37);have d:=iH (w:=w) (.cells (iw x ⟨fa,fn,fc⟩ ⟨va,c,vc⟩ ⟨sa,sn,sc⟩ ⟨S,kn,T⟩).toArray 37) (.cells (iw x ⟨D,fn,E⟩ ⟨M,c,N⟩ ⟨H,sn,L⟩ ⟨u,kn,z⟩).toArray 37);have Hx:=O R;have Hy:=O t;have E1:=O B;have E2:=O C;have a:=O d;clear R t B C d;unfold jG
 go_enter func19,ntmps19
 go_upto_region 1 with fail
 refine gI (fun wx=>hU wx w 37 x ⟨fa,fn,fc⟩ ⟨va,c,vc⟩ ⟨sa,sn,sc⟩ ⟨S,kn,T⟩/\hU wx (w+1) 37 x ⟨D,fn,E⟩ ⟨M,c,N⟩ ⟨H,sn,L⟩ ⟨u,kn,z⟩/\Below w w wx) ⟨E1,E2,a⟩ ?_;clear E1 E2 a;rintro w1 ⟨h1,h2,d⟩;have q:=h1.lt;have r:=h2.lt;obtain⟨c0,c1,c2,c3,c4,c5,W,P,c8⟩:=h1.cells;obtain⟨d0,d1,d2,d3,d4,d5,X,Q,d8⟩:=h2.cells;have g:=O h1;have n:=O h2;have a:=O d;clear h1 h2 d
 go_upto_region 3 with((with_reducible refine(DS x.cf S u kn T z _ ((Hx.out.go a.out).cf) ((Hy.out.go a.out).cf) e3).mono ?_);rintro e w2 ⟨rfl,a8⟩;have a0:=O a8;clear a8)
 refine gI (fun wx=>hU wx w 37 x ⟨fa,fn,fc⟩ ⟨va,c,vc⟩ ⟨sa,sn,sc⟩ ⟨S,kn,T⟩/\hU wx (w+1) 37 x ⟨D,fn,E⟩ ⟨M,c,N⟩ ⟨H,sn,L⟩ ⟨u,kn,z⟩/\Below w w wx) ⟨g.go a0,n.go a0,I a a0⟩ ?_;clear g n a a0 q r c0 c1 c2 c3 c4 c5 W P c8 d0 d1 d2 d3 d4 d5 X Q d8;rintro w3 ⟨h1,h2,d⟩;have q:=h1.lt;have r:=h2.lt;obtain⟨-,-,-,-,-,c5,W,P,-⟩:=h1.cells;obtain⟨-,-,-,-,-,d5,X,Q,-⟩:=h2.cells;have g:=O h1;have n:=O h2;have a:=O d;clear h1 h2 d
 go_wp2_with fail
 go_loopw [5] (fun F wr=>∃i:Nat,i<=fn/\F=.int .i64 (i:Int)/\hU wr w 37 x ⟨fa,fn,fc⟩ ⟨va,c,vc⟩ ⟨sa,sn,sc⟩ ⟨S,kn,T⟩/\hU wr (w+1) 37 x ⟨D,fn,E⟩ ⟨M,c,N⟩ ⟨H,sn,L⟩ ⟨u,kn,z⟩/\Below w w wr) (fun F _=>fn-(intOf F).toNat)
 case atStart=>exact⟨0,aA _,rfl,g,n,a⟩
 case round=>
  clear g n a q r c5 W P d5 X Q;obtain⟨i,hi,rfl,h1,h2,d⟩:=hrel;have q:=h1.lt;have r:=h2.lt;obtain⟨-,-,-,-,-,c5,W,P,-⟩:=h1.cells;obtain⟨-,-,-,-,-,d5,X,Q,-⟩:=h2.cells;have g:=O h1;have n:=O h2;have a:=O d;clear h1 h2 d
  by_cases b0:i<fn
  .obtain⟨b1,o1,B,l1,x0,x1⟩:=((Hx.go a).fs.ir (fun _ h=>h)).at2 b0
   obtain⟨b2,o2,C,l2,y0,y1⟩:=((Hy.go a).fs.ir (fun _ h=>h)).at2 b0;simp only at B C;subst B C;generalize x.fs.getD (i*2) 0=p0 at*;generalize x.fs.getD (i*2+1) 0=p1 at*
   go_wp2_with fail
   go_quiet (fail)
   go_wp2_with fail
   go_roundw
   case rel=>exact⟨i+1,by omega,by go_num,g.go (gV (TH _ _) _),n.go (gV (TH _ _) _),gV a _⟩
   case measure=>simp[intOf];omega
  .obtain rfl:fn=i:=by omega
   go_wp2_with fail
   go_loopw [6] (fun F wr=>∃i:Nat,i<=c/\F=.int .i64 (i:Int)/\hU wr w 37 x ⟨fa,fn,fc⟩ ⟨va,c,vc⟩ ⟨sa,sn,sc⟩ ⟨S,kn,T⟩/\hU wr (w+1) 37 x ⟨D,fn,E⟩ ⟨M,c,N⟩ ⟨H,sn,L⟩ ⟨u,kn,z⟩/\Below w w wr) (fun F _=>c-(intOf F).toNat)
   case atStart=>exact⟨0,aA _,rfl,g,n,a⟩
   case round=>
    clear g n a q r c5 W P d5 X Q;obtain⟨j,hj,rfl,h1,h2,d⟩:=hrel;have q:=h1.lt;have r:=h2.lt;obtain⟨-,-,-,-,-,-,W,P,-⟩:=h1.cells;obtain⟨-,-,-,-,-,-,X,Q,-⟩:=h2.cells;have g:=O h1;have n:=O h2;have a:=O d;clear h1 h2 d
    by_cases b3:j<c
    .obtain⟨b1,o1,B,l1,x0,x1⟩:=((Hx.go a).ws.ir (fun _ h=>h)).at2 b3
     obtain⟨b2,o2,C,l2,y0,y1⟩:=((Hy.go a).ws.ir (fun _ h=>h)).at2 b3;simp only at B C;subst B C;generalize x.ws.getD (j*2) 0=p0 at*;generalize x.ws.getD (j*2+1) 0=p1 at*
     go_wp2_with fail
     go_quiet (fail)
     go_wp2_with fail
     go_roundw
     case rel=>exact⟨j+1,by omega,by go_num,g.go (gV (TH _ _) _),n.go (gV (TH _ _) _),gV a _⟩
     case measure=>simp[intOf];omega
    .obtain rfl:c=j:=by omega
     go_wp2_with fail
     go_loopw [7] (fun F wr=>∃i:Nat,i<=sn/\F=.int .i64 (i:Int)/\hU wr w 37 x ⟨fa,fn,fc⟩ ⟨va,c,vc⟩ ⟨sa,sn,sc⟩ ⟨S,kn,T⟩/\hU wr (w+1) 37 x ⟨D,fn,E⟩ ⟨M,c,N⟩ ⟨H,sn,L⟩ ⟨u,kn,z⟩/\Below w w wr) (fun F _=>sn-(intOf F).toNat)
     case atStart=>exact⟨0,aA _,rfl,g,n,a⟩
     case round=>
      clear g n a q r W P X Q;obtain⟨m,hm,rfl,h1,h2,d⟩:=hrel;have q:=h1.lt;have r:=h2.lt;obtain⟨-,-,-,-,-,-,-,P,-⟩:=h1.cells;obtain⟨-,-,-,-,-,-,-,Q,-⟩:=h2.cells;have g:=O h1;have n:=O h2;have a:=O d;clear h1 h2 d
      by_cases b4:m<sn
      .obtain⟨b1,o1,y,cs,B,l1,b8,⟨a2,n2,c2,rfl,a4,e4,-,-⟩,b5⟩:=(Hx.go a).l.at b4
       obtain⟨b2,o2,y',e8,C,l2,b9,⟨a3,n3,c3,rfl,a5,f0,-,-⟩,b6⟩:=(Hy.go a).l.at b4;simp only at B C;subst B C;rw[b8]at b9;cases b9
       obtain rfl:n2=n3:=by rw[mU a4,mU a5]
       have a6:=O b5;have a7:=O b6;have c9:=O (a4.ir (fun _ h=>h));have d9:=O (a5.ir (fun _ h=>h));clear b5 b6 a4 a5 b8
       go_upto_region 18 with fail
       refine ic 12 [11] [] [(0,true),(1,true),(2,true),(3,true),(4,true),(5,true),(6,true),(7,true),(8,true),(9,true),(10,false),(11,true)] (by kernel_rfl) (by kernel_rfl) ⟨by simp,by simp,fun _ h=>by cases h⟩ (fun _ _ _ _ _ h=>h) (fun _ _ o _ _ h=>by cases o<;>exact h) ?_
       iterate 4
        refine gZ (v:=?_) rfl rfl (by rfl) ?_ ?_;rotate_left
        .intro y t
         have z0:=(t.cell (p:=⟨w.heap.size,7,none⟩) q).trans P;go_simp
         with_reducible rfl
        try simp only[V]
       refine pE rfl rfl (by rfl) (fun y t=>jb a6 (gE (gJ (k:=1) t)) l1) _ rfl rfl ?_
       try simp only[V]
       iterate 4
        refine gZ (v:=?_) rfl rfl (by rfl) ?_ ?_;rotate_left
        .intro y t
         have z0:=(t.cell (p:=⟨w.heap.size+1,7,none⟩) r).trans Q;go_simp
         with_reducible rfl
        try simp only[V]
       refine pE rfl rfl (by rfl) (fun y t=>jb a7 (gE (gJ (k:=1) t)) l2) _ rfl rfl ?_
       try simp only[V]
       refine iK rfl rfl (fun xa b7 K hK=>?_);go_simp;have A:Below wr wr xa:=gJ (k:=1) b7;refine(IP y.s y.zs a2 a3 n2 c2 c3 xa (c9.go A) (d9.go A) e4).mono ?_;rintro e wb ⟨rfl,a1⟩;refine hK _ _ a1 ?_;clear hK K
       iterate 1
        refine iy (v:=?_) rfl (by rfl) ?_ ?_;rotate_left
        .intro y
         go_simp
         with_reducible rfl
        try simp only[V]
       refine jV (l:=[]) rfl (fun w4 a9=>?_)
       try simp only[V]
       have h4:Below wr wr w4:=I A (I a1 a9);have L1:=O (g.go h4);have L2:=O (n.go h4);have Lb:=O (I a h4);clear b7 A a1 a9 h4 g n a a6 a7 P Q
       go_wp2_with fail
       go_roundw
       case rel=>exact⟨m+1,by omega,by go_num,L1,L2,Lb⟩
       case measure=>simp[intOf];omega
      .obtain rfl:sn=m:=by omega
       go_wp2;go_ret;exact⟨rfl,a⟩
def ji(l:List (List UInt8)):List Value:=l.map fun s=>.string (bs s)
def Du(a b):ji (a++b)=ji a++ji b:=aT
def xo(l):(ji l).length=l.length:=aU _
def Tryz.infoStr:(prog.info? 9).map (fun i=>(i.zero,i.size,i.bytes))=some (some (.string {data:=#[]}),1,16):=by kernel_rfl
def tZ{w:World}{base a n c l}(h:w.ownsRow base 9 1 (.slice a n c) n (ji l))(o:0<l.length):
 ∃g,a=some ⟨g,0,none⟩/\base<=g/\g<w.heap.size/\n=l.length/\n<=c/\ ∀(j:Nat) x,(l.map bs)[j]? =some x->w.cell? ⟨g,0+j,none⟩=some (.string x):=by
 have m:=h.1;rw[xo]at m
 rcases(mz h).2 with⟨e,h0⟩|⟨g,cap,e,k,f,b⟩
 .omega
 .cases e
  refine⟨g,rfl,k,b.lt,by omega,f,fun j x d=>?_⟩;rw[aR]at d
  cases hlj:l[j]? with
  |none=>rw[hlj]at d;cases d
  |some s=>
   rw[hlj]at d;cases d;have i:=(TG.1 hlj).1;rw[aV,b.cell (j:=j) (by rw[xo];exact i)];simp only[ji,List.getElem_map];rw[(TG.1 hlj).2]
def ua(w:World)(a:Option Addr)(n c:Nat)(ws:List (List UInt8))(B:Nat):Prop:=
 ws.length=n/\n<=c/\(0<n-> ∃g off,a=some ⟨g,off,none⟩/\g<B/\ ∀i x,ws[i]? =some x->w.cell? ⟨g,off+i,none⟩=some (.string (bs x)))
def ua.kept{w w' a n c B b ws}(h:ua w a n c ws B)(j:∀k,k<B->w'.heap[k]? =w.heap[k]?)(m:B<=b):ua w' a n c ws b:=by
 refine⟨h.1,h.2.1,fun h0=>?_⟩;obtain⟨g,off,e,f,d⟩:=h.2.2 h0;refine⟨g,off,e,by omega,fun i x l=>?_⟩;rw[<- d i x l];simp only[World.cell?,j g f]
def uE:∀(l u:List UInt8),∀s∈iA u l,s≠[]
 |[],u,s,h=>by
  rw[iA]at h;split at h
  .cases h
  .rw[aK]at h;subst h;assumption
 |b::l,u,s,h=>by
  rw[iA]at h;split at h
  .split at h
   .exact uE l _ s h
   .obtain rfl|h:=aS.1 h
    .assumption
    .exact uE l _ s h
  .exact uE l _ s h
def sN:∀(l u:List UInt8),∀s∈iA u l,s.length<=u.length+l.length
 |[],u,s,h=>by
  rw[iA]at h;split at h
  .cases h
  .rw[aK]at h;subst h;simp
 |b::l,u,s,h=>by
  rw[iA]at h;rw[aH];split at h
  .split at h
   .have:=sN l _ s h;simp at this;omega
   .obtain rfl|h:=aS.1 h
    .omega
    .have:=sN l _ s h;simp at this;omega
  .have:=sN l _ s h;simp at this;omega
def pH:∀(l u:List UInt8),(iA u l).length<=l.length+1
 |[],u=>by
  rw[iA];split<;>simp
 |b::l,u=>by
  rw[iA,aH];split
  .split
   .have:=pH l [];omega
   .have:=pH l [];rw[aH];omega
  .have:=pH l (u++[b]);omega
def uF:∀(l u:List UInt8),∀s∈io u l,s.length<=u.length+l.length
 |[],u,s,h=>by
  rw[io,aK]at h;subst h;simp
 |b::l,u,s,h=>by
  rw[io]at h;rw[aH];split at h
  .obtain rfl|h:=aS.1 h
   .omega
   .have:=uF l _ s h;simp at this;omega
  .have:=uF l _ s h;simp at this;omega
def qI:∀(l u:List UInt8),(io u l).length<=l.length+1
 |[],u=>by simp[io]
 |b::l,u=>by
  rw[io,aH];split
  .have:=qI l [];rw[aH];omega
  .have:=qI l (u++[b]);omega
def Iq(l w)(a:GW w)(c:l.length<=1000000):Calls prog 27 #[.string (bs l),.string (bs [10])] w fun e w'=>
 e=.returned (.slice (J (w.heap.size)) (io [] l).length (io [] l).length)/\w'=w.alloc (.cells (ji (io [] l)).toArray 9):=by
 obtain⟨m,b⟩:=a.m;refine(Tryz.strings_Split (bs l) (bs [10]) m w (by rw[lE];omega) b (by decide)).mono ?_;rintro e w' ⟨rfl,rfl⟩;have h1:=Dr l;have h2:=xX l.length l (aa _);rw[h1,show Lib.countB (bs l) (bs [10])=Lib.count l [10]from rfl,<- h2,dD];exact⟨rfl,rfl⟩
def Fo(x:Nat)(w)(d:x<=1114111):Calls prog 89 #[.int .i32 (x:Int)] w fun e w'=>e=.returned (.bool (Fm x))/\w=w':=by
 by_cases h1:x=32
 .subst h1
  go_enter func89,ntmps89
  go_wp2_with fail
  go_ret;exact⟨rfl,rfl⟩
 .have c:((x:Int)==32)=false:=by rw[ak];omega
  have a:Fm x=false:=by unfold Fm;rw[ak];exact h1
  have b:=O a;clear a h1
  go_enter func89,ntmps89
  go_wp2_with fail
  go_ret;exact⟨by rw[b];rfl,rfl⟩
def Ir(l w)(m:l.length<=1000000):Calls prog 88 #[.string (bs l),.func (.func 89) #[] #[]] w fun e w'=>
 ∃A,e=.returned (.slice (J A) (iA [] l).length (iA [] l).length)/\ua w' (J A) (iA [] l).length (iA [] l).length (iA [] l) w'/\Below w w w':=by
 refine(Tryz.strings_FieldsFunc_grows 89 #[] (fun args w=>by kernel_rfl) Fm (bs l) w (by rw[lE];omega) ?_).mono ?_
 .intro W x b _
  exact(Fo x W b).mono fun e w' h=>⟨h.1,h.2▸TH _ _⟩
 .rintro e w' ⟨A,rfl,k,a,j⟩
  rw[Bm,aU,dD]at*;refine⟨A,rfl,⟨rfl,aa _,fun h0=>?_⟩,j⟩;obtain⟨g,c,-,d,-,-,f⟩:=tZ (l:=iA [] l) a h0;cases c;refine⟨A,0,rfl,d,fun i x b=>?_⟩;have:=f i (bs x) (by rw[aR,b];rfl);exact this
def nN:List (List UInt8)->List UInt8
 |[]=>[]
 |[x]=>x
 |x::y::l=>x++32::nN (y::l)
def zZ:∀(l:List (List UInt8)),Lib.join l [32]=nN l
 |[]=>rfl
 |[x]=>by rw[Lib.join_one];rfl
 |x::y::l=>by
  have h:=zZ (y::l);rw[Lib.join_cons]at h;rw[Lib.join_cons,nN,<- h];simp[Lib.joinTail]
def iF(ws:List (List UInt8)):List UInt8:=nN ws++[10]
def kO:List (List UInt8):=[[99,117,114,118],[99,111,110,105,99],[99,117,114,118,120],[99,111,110,105,99,120],[97,115,112,104,52],[97,115,112,104,54],[97,115,112,104,56],[97,115,112,104,49,48],[116,104,105,99,107],[115,101,109,105],[100,120],[100,121],[97,120],[97,121],[97,122],[112,104,97,115,101,50],[112,104,97,115,101,52]]
def kP:List (List UInt8):=[[115,116,97,110,100,97,114,100],[98,105,99,111,110,105,99],[98,114,101,97,107],[105,100,101,97,108]]
def kV:List (List UInt8):=[[108,101,110,115],[111,98,106,101,99,116],[112,117,112,105,108],[115,116,111,112],[112,114,105,109,97,114,121],[102,105,101,108,100],[119,97,118,101],[115,117,114,102,97,99,101],[99,111,110,102,105,103],[101,110,100]]
def xZ:List UInt8:=[108,101,110,115]
def sO:List UInt8:=[111,98,106,101,99,116]
def vA:List UInt8:=[112,117,112,105,108]
def Aa:List UInt8:=[115,116,111,112]
def qJ:List UInt8:=[112,114,105,109,97,114,121]
def vB:List UInt8:=[102,105,101,108,100]
def Ab:List UInt8:=[119,97,118,101]
def nq:List UInt8:=[115,117,114,102,97,99,101]
def mc:List UInt8:=[99,111,110,102,105,103]
def Fp:List UInt8:=[101,110,100]
def lG:List UInt8:=[102,105,108,109]
def lB:List UInt8:=[104,111,108,101]
def kj:List UInt8:=[111,114,100,101,114]
def lP:List UInt8:=[103,108,97,115,115]
def lj:List UInt8:=[99,104,97,110,103,101]
def lQ:List UInt8:=[105,110,102,105,110,105,116,121]
def oo(p:Nat):Nat:=if p=1\/p=3 then 9 else if 16<=p then 3 else 6
def km(p:Nat):List UInt8:=kO.getD (p-1) []
def kb(b:ByteArray):List UInt8:=b.data.toList
def Ld(s:gW)(p:Nat):List UInt8:=if s.get (p:Int)=0 then[]else iF [km p,iz (s.get (p:Int)) (oo p)]
def ub(s:gW)(a n:Nat):List UInt8:=((List.range n).map fun i=>Ld s (a+i)).flatten
def ms(zs:List Int)(i:Nat):List UInt8:=iF [lG,iz (zs.getD (i*3) 0) 7,iz (zs.getD (i*3+1) 0) 0,iz (zs.getD (i*3+2) 0) 0]
def oq(x:gM):List UInt8:=
 iF [nq,kP.getD (x.s.kind-1).toNat []]++ub x.s 1 10++(if x.s.hole=0 then[]else iF [lB,iz x.s.hole 6])++ub x.s 11 5
  ++(if x.s.order=0 then[]else iF [kj,iz x.s.order 0])++ub x.s 16 2++(if kb x.s.glass=[]then[]else iF [lP,kb x.s.glass])
  ++((List.range (x.zs.length/3)).map (ms x.zs)).flatten
def mK(zs:List Int)(i:Nat):List UInt8:=iF [lj,iz (zs.getD (i*3) 0) 0,km (zs.getD (i*3+1) 0).toNat,iz (zs.getD (i*3+2) 0) (oo (zs.getD (i*3+1) 0).toNat)]
def ot(c:jd):List UInt8:=iF [mc,kb c.nm]++((List.range (c.zs.length/3)).map (mK c.zs)).flatten
def nE(fs:List Int)(i:Nat):List UInt8:=iF [vB,iz (fs.getD (i*2) 0) 6,iz (fs.getD (i*2+1) 0) 6]
def qK(ws:List Int)(i:Nat):List UInt8:=iF [Ab,iz (ws.getD (i*2) 0) 3,iz (ws.getD (i*2+1) 0) 0]
def Fq(x:gR):List UInt8:=iF [xZ,kb x.nm]++iF [sO,if x.dist=0 then lQ else iz x.dist 6]++iF [vA,iz x.pupil 6]++iF [Aa,iz x.stop 0]++iF [qJ,iz x.prim 0]
def nO(x:gR):List UInt8:=
 Fq x++((List.range (x.fs.length/2)).map (nE x.fs)).flatten++((List.range (x.ws.length/2)).map (qK x.ws)).flatten++(x.l.map oq).flatten++(x.cf.map ot).flatten++iF [Fp]
def lp(w:List UInt8)(d:Nat):Option Int:=if Fj w d=0 then some (Fi w d)else none
def kF:List (List UInt8)->List Nat->Option (List Int)
 |[],[]=>some []
 |w::ws,d::ds=>match lp w d with
  |none=>none
  |some n=>match kF ws ds with
   |none=>none
   |some a=>some (n::a)
 |_,_=>none
def rD(w:List UInt8):Option Nat:=(kO.findIdx? (· ==w)).map (· +1)
structure jL where
 x:gR
 at_:Int
 seen:List (List UInt8)
def lJ(k:Nat):gM:=⟨⟨(k:Int),0,0,0,0,0,0,0,0,0,0,0,0,⟨#[]⟩,0,0,0,0,0,0,0⟩,[]⟩
def jk(x:gR)(k:Nat)(w:List (List UInt8)):Option gR:=
 match k,w with
 |0,[v]=>some {x with nm:=bs v}
 |1,[v]=>if v=lQ then some x else(lp v 6).map fun n=>{x with dist:=n}
 |2,[v]=>(lp v 6).map fun n=>{x with pupil:=n}
 |3,[v]=>(lp v 0).map fun n=>{x with stop:=n}
 |4,[v]=>(lp v 0).map fun n=>{x with prim:=n}
 |5,w=>(kF w [6,6]).map fun a=>{x with fs:=x.fs++a}
 |6,w=>(kF w [3,0]).map fun a=>{x with ws:=x.ws++a}
 |7,[v]=>(kP.findIdx? (· ==v)).map fun i=>{x with l:=x.l++[lJ (i+1)]}
 |8,[v]=>some {x with cf:=x.cf++[⟨bs v,[]⟩]}
 |9,[]=>some x
 |_,_=>none
def Dv(v:List UInt8):Option Nat:=match rD v with
 |some p=>some (oo p)
 |none=>if v=lB then some 6 else if v=kj then some 0 else none
def Ac(s:gW)(v:List UInt8)(n:Int):gW:=match rD v with
 |some p=>s.put (p:Int) n
 |none=>if v=lB then{s with hole:=n} else{s with order:=n}
def Ad(y:gM)(w:List (List UInt8)):Option gM:=
 match w with
 |[]=>none
 |f::ws=>
  if f=lG then(kF ws [7,0,0]).map fun a=>{y with zs:=y.zs++a}
  else match ws with
   |[v]=>if f=lP then some {y with s:={y.s with glass:=bs v}} else
     match Dv f with
     |none=>none
     |some d=>(lp v d).map fun n=>{y with s:=Ac y.s f n}
   |_=>none
def sP(c:jd)(w:List (List UInt8)):Option jd:=
 match w with
 |[_,a,p,v]=>match rD p with
  |none=>none
  |some q=>match lp a 0 with
   |none=>none
   |some i=>(lp v (oo q)).map fun n=>{c with zs:=c.zs++[i,(q:Int),n]}
 |_=>none
def ou{α:Type}(l:List α)(f:α->Option α):Option (List α):=match l.getLast? with
 |none=>none
 |some y=>(f y).map fun z=>l.dropLast++[z]
def kp(r:jL)(w:List (List UInt8)):Option jL:=
 if r.at_=9 then none else
 match w with
 |[]=>some r
 |f::ws=>
  match kV.findIdx? (· ==f)with
  |some k=>
   if(k:Int)=r.at_+1\/(5<=k/\4<=r.at_/\r.at_<=(k:Int))then(jk r.x k ws).map fun y=>⟨y,(k:Int),[]⟩else none
  |none=>
   if r.at_=7 then
    (if f≠lG/\f∈r.seen then none else(ou r.x.l fun y=>Ad y (f::ws)).map fun l=>⟨{r.x with l:=l},7,if f=lG then r.seen else r.seen++[f]⟩)
   else if r.at_=8/\f=lj then(ou r.x.cf fun c=>sP c (f::ws)).map fun cf=>⟨{r.x with cf:=cf},8,r.seen⟩
   else none
def ti:List (List UInt8)->Bool
 |[]=>true
 |w::_=>w.head?==some 35
def lR:Nat->jL->List (List UInt8)->Except Nat jL
 |_,r,[]=>.ok r
 |i,r,s::ss=>if ti (iA [] s)then lR (i+1) r ss else match kp r (iA [] s)with
  |none=>.error (i+1)
  |some q=>lR (i+1) q ss
def mG:gR:=⟨⟨#[]⟩,0,0,0,0,[],[],[],[]⟩
def Ae:jL:=⟨mG,-1,[]⟩
structure PP where
 x:gR
 line:Int
 e:Int
def nr(t:List UInt8):PP:=
 if 20000<t.length then⟨mG,0,3⟩else
 match lR 0 Ae (io [] t)with
 | .error i=>⟨mG,(i:Int),5⟩
 | .ok r=>if r.at_≠9 then⟨mG,((io [] t).length:Int),5⟩else if iI r.x=true then⟨r.x,0,0⟩else⟨mG,0,120⟩
def iX:Ending:=.panicked [{v:=.iface 124 (.agg #[]),recovered:=false}]
def kW(w):Calls prog 54 #[true] w fun e w'=>e=.returned (.tuple #[])/\w=w':=by
 go_enter func54,ntmps54
 go_wp2_with fail
 go_end0;exact⟨rfl,rfl⟩
def lm(w):Calls prog 54 #[false] w fun e w'=>e=iX/\w=w':=by
 go_enter func54,ntmps54
 go_wp2_with fail
 exact⟨rfl,rfl,rfl⟩
def JL(ws:List (List UInt8))(e:Ending):Prop:=match ws with
 |[v]=>e=.returned (.string (bs v))
 |_=>e=iX
def nF(ws a n c B w)(h:ua w a n c ws B):Calls prog 337 #[Z a n c] w fun e w'=>JL ws e/\w=w':=by
 have b:=h.1
 match ws,b,h with
 |[],b,h=>
  obtain rfl:n=0:=b.symm;clear h
  go_enter func337,ntmps337
  go_wp2_with fail
  refine(lm w).mono ?_;rintro e f ⟨rfl,rfl⟩;unfold iX
  go_wp2_with fail
  exact⟨rfl,rfl,rfl⟩
 |[v],b,h=>
  obtain rfl:n=1:=b.symm;obtain⟨g,off,rfl,k,d⟩:=h.2.2 (by omega);have c0:w.cell? ⟨g,off,none⟩=some (.string (bs v)):=d 0 v rfl;have i:=h.2.1;clear d h b
  go_enter func337,ntmps337
  go_wp2_with fail
  refine(kW w).mono ?_;rintro e f ⟨rfl,rfl⟩
  go_wp2_with fail
  go_ret;exact⟨rfl,rfl⟩
 |v::u::r,b,h=>
  have j:n=r.length+2:=by rw[<- b];simp
  have h1:((n:Int)==1)=false:=by rw[ak];omega
  clear h b j
  go_enter func337,ntmps337
  go_wp2_with fail
  refine(lm w).mono ?_;rintro e f ⟨rfl,rfl⟩;unfold iX
  go_wp2_with fail
  exact⟨rfl,rfl,rfl⟩
def kX(l:List UInt8)(d:Nat)(e:Ending):Prop:=match lp l d with
 |some n=>e=.returned (.int .i64 n)
 |none=>e=iX
def mL(l)(d:Nat)(w)(n:l.length<=100000)(m:d<=18)(j:GW w):Calls prog 140 #[.string (bs l),.int .i64 (d:Int)] w fun e w'=>kX l d e/\Below w w w':=by
 go_enter func140,ntmps140
 go_wp2_with fail
 refine(DA l d w n m j).mono ?_;rintro e k ⟨rfl,h⟩
 by_cases a:Fj l d=0
 .have g:lp l d=some (Fi l d):=by unfold lp;rw[aq a]
  have f:kX l d (.returned (.int .i64 (Fi l d))):=by unfold kX;rw[g]
  rw[a];have i:=O h;have b:=O f;clear h a g f j
  go_wp2_with fail
  refine(kW k).mono ?_;rintro e o ⟨rfl,rfl⟩
  go_wp2_with fail
  go_ret;exact⟨b,i⟩
 .have g:lp l d=none:=by unfold lp;rw[aj a]
  have f:kX l d iX:=by unfold kX;rw[g]
  have h0:(Fj l d==0)=false:=by rw[ak];exact a
  have i:=O h;have b:=O f;clear h a g f j
  go_wp2_with fail
  refine(lm k).mono ?_;rintro e o ⟨rfl,rfl⟩;have c:=b.out;unfold iX at c⊢;have b:=O c;clear c
  go_wp2_with fail
  exact⟨rfl,b,i⟩
def An:∀(ws:List (List UInt8))(ds:List Nat)(k:Nat)(zs:List Int)(x:List UInt8)(d:Nat)(n:Int),ws[k]? =some x->ds[k]? =some d->kF (ws.take k) (ds.take k)=some zs->lp x d=some n->kF (ws.take (k+1)) (ds.take (k+1))=some (zs++[n])
 |[],_,k,_,_,_,_,h,_,_,_=>by simp at h
 |_::_,[],k,_,_,_,_,_,h,_,_=>by simp at h
 |w::ws,e::ds,0,zs,x,d,n,h1,h2,h3,h4=>by
  simp only[eS,bA]at h1 h2;subst h1;subst h2;simp only[dU,kF,bA]at h3;subst h3;simp[kF,h4]
 |w::ws,e::ds,k+1,zs,x,d,n,h1,h2,h3,h4=>by
  simp only[cS]at h1 h2;rw[dI,dI,kF]at h3⊢
  cases hv:lp w e with
  |none=>rw[hv]at h3;cases h3
  |some m=>
   rw[hv]at h3
   cases hr:kF (ws.take k) (ds.take k)with
   |none=>rw[hr]at h3;cases h3
   |some a=>
    rw[hr]at h3;simp only[bA]at h3;subst h3;simp only[An ws ds k a x d n h1 h2 hr h4];rfl
def Ao:∀(ws:List (List UInt8))(ds:List Nat)(k:Nat)(x:List UInt8)(d:Nat),ws[k]? =some x->ds[k]? =some d->lp x d=none->kF ws ds=none
 |[],_,k,_,_,h,_,_=>by simp at h
 |_::_,[],k,_,_,_,h,_=>by simp at h
 |w::ws,e::ds,0,x,d,h1,h2,h3=>by
  simp only[eS,bA]at h1 h2;subst h1;subst h2;rw[kF,h3]
 |w::ws,e::ds,k+1,x,d,h1,h2,h3=>by
  simp only[cS]at h1 h2;rw[kF,Ao ws ds k x d h1 h2 h3];cases lp w e<;>rfl
def qj:∀(ws:List (List UInt8))(ds:List Nat)(zs:List Int),kF ws ds=some zs->zs.length=ws.length/\ws.length=ds.length
 |[],[],zs,h=>by simp only[kF,bA]at h;subst h;exact⟨rfl,rfl⟩
 |[],_::_,_,h=>by cases h
 |_::_,[],_,h=>by cases h
 |w::ws,e::ds,zs,h=>by
  rw[kF]at h
  cases hv:lp w e with
  |none=>rw[hv]at h;cases h
  |some m=>
   rw[hv]at h
   cases hr:kF ws ds with
   |none=>rw[hr]at h;cases h
   |some a=>
    rw[hr]at h;simp only[bA]at h;subst h;obtain⟨h1,h2⟩:=qj ws ds a hr;exact⟨by simp[h1],by simp[h2]⟩
def NB{ws ds}(h:ws.length≠ds.length):kF ws ds=none:=by
 cases hr:kF ws ds with
 |none=>rfl
 |some zs=>exact absurd (qj ws ds zs hr).2 h
def mu(w:World)(ws:List (List UInt8))(ds:List Nat)(e:Ending)(w':World):Prop:=match kF ws ds with
 |some zs=>(∃a c,e=.returned (.slice a zs.length c)/\SL w' w' a zs.length c zs/\ ∀b,(Value.slice a zs.length c).ownBlock=some b->w.heap.size<=b)/\Below w w w'
 |none=>e=iX/\Below w w w'
def DB{w w':World}{ws ds zs e}(h:kF ws ds=some zs)(h1:∃a c,e=.returned (.slice a zs.length c)/\SL w' w' a zs.length c zs/\ ∀b,(Value.slice a zs.length c).ownBlock=some b->w.heap.size<=b)(h2:Below w w w'):mu w ws ds e w':=by
 unfold mu;rw[h];exact⟨h1,h2⟩
def wD{w w':World}{ws ds e}(h:kF ws ds=none)(h1:e=iX)(h2:Below w w w'):mu w ws ds e w':=by
 unfold mu;rw[h];exact⟨h1,h2⟩
def RA{w:World}{base v n zs}(h:w.ownsRow base 3 1 v n (zs.map (Value.int .i64))):∃a c,v=.slice a zs.length c/\SL w w a zs.length c zs:=by
 have f:=h.1;rw[aU,dn]at f;subst f
 rcases(mz h).2 with⟨rfl,h0⟩|⟨g,cap,rfl,i,d,b⟩
 .have:zs=[]:=aX.1 h0
  subst this;exact⟨none,0,rfl,SL.nil _ _ _ _⟩
 .refine⟨some ⟨g,0,none⟩,cap,rfl,rfl,d,fun _=>⟨g,0,rfl,b.lt,fun j e=>?_⟩⟩
  rw[aV,b.cell (j:=j) (by rw[aU];exact e)];simp[ah,ae e]
def sS(ws ds a b n m c c' w)(h:ua w a n c ws w)(hs:SL w w b m c' (ds.map fun(d:Nat)=>(d:Int)))(hn:n<=100000)(hm:m<=100)(X:∀s∈ws,s.length<=100000)(T:∀d∈ds,d<=18)(hg:GW w):
 Calls prog 138 #[Z a n c,Z b m c'] w (mu w ws ds):=by
 have hl:=h.1
 have W:m=ds.length:=by rw[hs.1];simp
 by_cases b7:n=m
 .subst b7
  have H:=O h;have Hs:=O hs;have Hg:=O hg;have b5:=O X;have b2:=O T;have Hl:=O hl;have a3:=O W;clear h hs hg X T hl W
  go_enter func138,ntmps138
  go_wp2_with fail
  refine(kW w).mono ?_;rintro e w1 ⟨rfl,rfl⟩
  go_upto_region 4 with fail
  go_loopw [5,16] (fun v iv wr=>∃(k:Nat)(zs:List Int),k<=n/\iv=.int .i64 (k:Int)/\wr.ownsRow w 3 1 v k (zs.map (Value.int .i64))/\kF (ws.take k) (ds.take k)=some zs/\Below w w wr) (fun _ iv _=>n-(intOf iv).toNat)
  case atStart=>exact⟨0,[],aA _,rfl,⟨rfl,Or.inl ⟨rfl,rfl⟩⟩,rfl,TH _ _⟩
  case round=>
   obtain⟨k,zs,hk,rfl,A,C,P⟩:=hrel;obtain⟨va,vc,rfl,a9⟩:=RA A;have E:=O A;have Hv:=O C;have i:=O P;have b3:=O a9;clear A C P a9
   by_cases b6:k<n
   .obtain⟨x,hx⟩:∃x,ws[k]? =some x:=⟨ws[k]'(by have:=Hl.out;omega),ae _⟩
    obtain⟨d,hd⟩:∃d,ds[k]? =some d:=⟨ds[k]'(by have:=a3.out;omega),ae _⟩;obtain⟨g,off,rfl,hgl,hc⟩:=H.2.2 (by omega);have c0:wr.cell? ⟨g,off+k,none⟩=some (.string (bs x)):=(i.cell (p:=⟨g,off+k,none⟩) hgl).trans (hc k x hx);obtain⟨g2,K,rfl,a2,a5⟩:=Hs.at (by omega)
    have c1:wr.cell? ⟨g2,K+k,none⟩=some (.int .i64 (d:Int)):=by
     refine(i.cell (p:=⟨g2,K+k,none⟩) a2).trans ((a5 k b6).trans ?_);rw[ah,aR,hd];rfl
    clear hc a5;have b9:x.length<=100000:=b5 x (aL hx);have a1:d<=18:=b2 d (aL hd);have Hx:=O hx;have Hd:=O hd;clear hx hd
    go_wp2_with fail
    refine(mL x d wr b9 a1 (Hg.below i)).mono ?_;rintro e D ⟨Q,o⟩
    cases hvx:lp x d with
    |none=>
     have y:=Ao ws ds k x d Hx Hd hvx;unfold kX at Q;rw[hvx]at Q;subst Q;have B:=wD y rfl (i.trans (o.mono i.size));have N:=O B;clear hvx y o B c0 c1;have f:=N.out;unfold iX at f⊢;have R:=O f;clear f N
     go_wp2_with fail
     exact⟨rfl,R⟩
    |some z=>
     have u:=An ws ds k zs x d z Hx Hd Hv hvx;unfold kX at Q;rw[hvx]at Q;subst Q;have q:=kD E o;have l:=O q;have b0:=O (i.trans (o.mono i.size));have b4:=O u;have b8:=(i.trans (o.mono i.size)).size;clear hvx u q o c0 c1;have a7:=TL D (.cells #[z] 3);have S:=(TH D D).alloc (aa _) (.cells #[z] 3)
     have F:SL (D.alloc (.cells #[z] 3)).heap.size (D.alloc (.cells #[z] 3)) (J (D.heap.size)) 1 1 [z]:=by
      refine⟨rfl,aa _,fun _=>⟨D.heap.size,0,rfl,by simp,fun j hj=>?_⟩⟩
      obtain rfl:j=0:=by omega
      exact gA a7 0
     have r:=kD l S;have a0:=O F;have L:=O r;have c3:=O S;clear a7 S F r
     go_wp2_with(refine ju rfl (.tmp 21) (.tmp 28) 162 rfl underlying162 w _ k zs rfl L _ _ 1 1 [z] rfl a0 (by intro e;cases e) (by omega) (by simp;omega) ?_;intro v' w3 t a6)
     have a4:Below w w w3:=jF b0 l a6 (aa _) b8;have M:=O t;have b1:=O a4;clear t a6 a4
     go_roundw
     case rel=>exact⟨k+1,zs++[z],by omega,by go_num,M,b4,b1⟩
     case measure=>simp[intOf];omega
   .obtain rfl:k=n:=by omega
    have C:=Hv.out;rw[aM (by have:=Hl.out;omega),aM (by have:=a3.out;omega)]at C;have c2:=qj ws ds zs C;have B:mu w ws ds (.returned (.slice va zs.length vc)) wr:=DB C ⟨va,vc,rfl,b3,fun b P=>(E.lt b P).1⟩ i;have N:=O B;clear B C c2
    go_wp2_with fail
    go_ret;exact N
 .have a8:ws.length≠ds.length:=by omega
  have B:∀w',Below w w w'->mu w ws ds iX w':=fun w' P=>wD (NB a8) rfl P
  have h0:((n:Int)==(m:Int))=false:=by rw[ak];omega
  have N:=O B;clear h hs hg X T hl W a8 B
  go_enter func138,ntmps138
  go_wp2_with fail
  refine(lm w).mono ?_;rintro e w1 ⟨rfl,rfl⟩;have f:=N w (TH _ _);unfold iX at f⊢;have R:=O f;clear f
  go_wp2_with fail
  exact⟨rfl,R⟩
def QB:Nat->FuncId
 |0=>308
 |1=>309
 |2=>310
 |3=>311
 |4=>312
 |5=>313
 |6=>314
 |7=>315
 |8=>316
 |9=>317
 |10=>318
 |11=>319
 |12=>320
 |13=>321
 |14=>322
 |15=>323
 |_=>324
def NC(a b):(bs a==bs b)=(a==b):=by
 show(a.toArray==b.toArray)=(a==b)
 simp
abbrev ND:=List (List UInt8×Value)
def rR(l:ND)(nm:List UInt8):Option Value:=(l.find? fun e=>e.1==nm).map (·.2)
def Li(w:World)(b:Nat)(l:ND):Prop:=
 ∃c a,w.heap[b]? =some (.map c a)/\c.toList.map (fun e=>(e.key,e.val))=l.map (fun x=>(Value.string (bs x.1),x.2))
def Li.block{w w' b l}(h:Li w b l)(d:w'.heap[b]? =w.heap[b]?):Li w' b l:=by
 obtain⟨c,a,h1,h2⟩:=h;exact⟨c,a,d.trans h1,h2⟩
def Cr(s):∀(l:List MapEntry)(ks:ND)(i:Nat),l.map (fun e=>(e.key,e.val))=ks.map (fun x=>(Value.string (bs x.1),x.2))->
 (∃v,rR ks s=some v/\ ∃j,Instr.findNow .string (.string (bs s)) l i=some (some (j,v)))\/(rR ks s=none/\Instr.findNow .string (.string (bs s)) l i=some none)
 |[],[],i,_=>Or.inr ⟨rfl,rfl⟩
 |[],k::ks,i,h=>by cases h
 |e::l,[],i,h=>by cases h
 |e::l,k::ks,i,h=>by
  simp only[aN,ei,dK]at h;obtain⟨⟨h1,h2⟩,h3⟩:=h;unfold Instr.findNow;rw[h1,h2];simp only[Instr.sameNow,NC];cases e:(s==k.1)
  .have a:(k.1==s)=false:=by rw[ak]at e⊢;exact fun x=>e x.symm
   obtain ⟨v,b,c⟩|⟨b,c⟩:=Cr s l ks (i+1) h3
   .exact Or.inl ⟨v,by unfold rR at*;rw[fP,a];exact b,c⟩
   .exact Or.inr ⟨by unfold rR at*;rw[fP,a];exact b,c⟩
  .have a:(k.1==s)=true:=by rw[dz]at e⊢;exact e.symm
   exact Or.inl ⟨k.2,by unfold rR;rw[fP,a];rfl,i,rfl⟩
def mM{P t kt e}(m:P.underlying t=some (.map kt e))(a:P.underlying kt=some .string){w z}(o:(zeroValue e).run P w=.ok z w){b l}(h:Li w b l)(s ok):
 (Instr.lookup t (.map (some b)) (.string (bs s)) ok).run P w=.ok (if ok then .tuple #[(rR l s).getD z,.bool (rR l s).isSome]else(rR l s).getD z) w:=by
 obtain⟨n,f,g,k⟩:=h
 have i:∀b,(Instr.checkKey b 10000 kt (.string (bs s))).run P w=.ok () w:=fun b=>by
  rw[show(10000:Nat)=9999+1 from rfl,Instr.checkKey,bR,bQ a];rfl
 obtain ⟨v,c,j,d⟩|⟨c,d⟩:=Cr s n.toList l 0 k
 .cases ok<;>simp[Instr.lookup,Instr.findKey,bR,bQ m,bQ a,MapKept.run_getObj_map g,i,d,c]
 .cases ok<;>simp[Instr.lookup,Instr.findKey,bR,bQ m,bQ a,MapKept.run_getObj_map g,i,d,c,o]
def Ap(N g:Nat)(w:World)(a:List UInt8->Option Value):Prop:=∃b l,w.cell? (J g)=some (.map (some b))/\b<N/\Li w b l/\ ∀s,rR l s=a s
def Ap.below{N g w w'}{a:List UInt8->Option Value}(h:Ap N g w a)(e:g<N)(c:Below N w w'):Ap N g w' a:=by
 obtain⟨b,l,h1,h2,h3,d⟩:=h;exact⟨b,l,(c.cell (p:=J g) e).trans h1,h2,h3.block (c.block b h2),d⟩
def Ap.mono{N M g w}{a:List UInt8->Option Value}(h:Ap N g w a)(d:N<=M):Ap M g w a:=by
 obtain⟨b,l,h1,h2,h3,c⟩:=h;exact⟨b,l,h1,by omega,h3,c⟩
def yE(s:List UInt8):Option Value:=
 if s=lB then some (.agg #[.string (bs lB),.int .i64 6,.func (.func 325) #[] #[]])else if s=kj then some (.agg #[.string (bs kj),oZ,.func (.func 326) #[] #[]])else none
def RB:Nat->FuncId
 |0=>327
 |1=>328
 |2=>329
 |3=>330
 |4=>331
 |5=>332
 |6=>333
 |7=>334
 |8=>335
 |_=>336
def Fv(s:List UInt8):Option Value:=(kV.findIdx? (· ==s)).map fun k=>.func (.func (RB k)) #[] #[]
structure TW (N:Nat) (w:World):Prop where
 glo:14<=N
 par:∀i,i<17->w.rangeAt 0 (i*3) [.string (bs (kO.getD i [])),.int .i64 (oo (i+1):Int),.func (.func (QB i)) #[] #[]]
 ord:∃a n c,w.cell? (J 1)=some (.slice a n c)/\ua w a n c kV N
 oth:Ap N 3 w yE
 rdr:Ap N 4 w Fv
 kin:∃a n c,w.cell? (J 2)=some (.slice a n c)/\ua w a n c kP N
def TW.below{N w w'}(h:TW N w)(b:Below N w w'):TW N w':=by
 refine⟨h.glo,fun i hi j v e=>?_,?_,h.oth.below (ab (show 3<14 by decide) h.glo) b,h.rdr.below (ab (show 4<14 by decide) h.glo) b,?_⟩
 .exact(b.cell (p:=⟨0,i*3+j,none⟩) (ab (show 0<14 by decide) h.glo)).trans (h.par i hi j v e)
 .obtain⟨a,n,c,h1,h2⟩:=h.ord
  exact⟨a,n,c,(b.cell (p:=J 1) (ab (show 1<14 by decide) h.glo)).trans h1,h2.kept (fun k d=>b.block k d) (aa _)⟩
 .obtain⟨a,n,c,h1,h2⟩:=h.kin
  exact⟨a,n,c,(b.cell (p:=J 2) (ab (show 2<14 by decide) h.glo)).trans h1,h2.kept (fun k d=>b.block k d) (aa _)⟩
def Lj(o:Option Nat):Int:=match o with
 |some i=>(i:Int)
 |none=> -1
def Aq{l:List (List UInt8)}{s k x}(b:l[k]? =some x)(a:∀y∈l.take k,(y==s)=false)(h:(x==s)=true):l.findIdx? (· ==s)=some k:=by
 have c:=(TG.1 b).1;rw[fm];refine⟨c,by rw[(TG.1 b).2];exact h,fun j d=>?_⟩;have:=a l[j] (List.mem_take_iff_getElem.2 ⟨j,by omega,rfl⟩);simp[this]
def vC{l:List (List UInt8)}{s}(a:∀y∈l,(y==s)=false):l.findIdx? (· ==s)=none:=by
 rw[List.findIdx?_eq_none_iff];exact a
def JM{l:List (List UInt8)}{s x k}(c:l[k]? =some x)(b:∀y∈l.take k,(y==s)=false)(h:(x==s)=false):∀y∈l.take (k+1),(y==s)=false:=by
 intro y a;have d:=(TG.1 c).1;rw[eK,c]at a
 obtain a|a:=bj.1 a
 .exact b y a
 .simp at a;subst a;exact h
def Ar(l s a n c N w)(h:ua w a n c l N)(z:N<=w.heap.size)(D:n<=100000):
 Calls prog 90 #[Z a n c,.string (bs s)] w (iZ w (.int .i64 (Lj (l.findIdx? (· ==s))))):=by
 have v:=h.1;have H:=O h;have t:=O v;clear h v
 go_enter func90,ntmps90
 go_wp2_with fail
 go_loopw [8] (fun r wr=>∃k:Nat,k<=n/\r=.int .i64 (k:Int)/\(∀y∈l.take k,(y==s)=false)/\Below w w wr) (fun r _=>n-(intOf r).toNat)
 case atStart=>exact⟨0,aA _,rfl,by simp,TH _ _⟩
 case round=>
  obtain⟨k,C,rfl,o,m⟩:=hrel;have b:=O o;have i:=O m;clear o m
  by_cases B:k<n
  .obtain⟨x,f⟩:∃x,l[k]? =some x:=⟨l[k]'(by have:=t.out;omega),ae _⟩
   obtain⟨g,off,rfl,hgl,u⟩:=H.2.2 (by omega);have c0:wr.cell? ⟨g,off+k,none⟩=some (.string (bs x)):=(i.cell (p:=⟨g,off+k,none⟩) (ab hgl z)).trans (u k x f);clear u;cases hb:(s==x)
   .have d:(x==s)=false:=by rw[ak]at hb⊢;exact fun e=>hb e.symm
    have j:=O (JM f b d);clear f d b
    go_wp2_with fail
    go_roundw
    case rel=>exact⟨k+1,by omega,by go_num,j,i⟩
    case measure=>simp[intOf];omega
   .have d:(x==s)=true:=by rw[dz]at hb⊢;exact hb.symm
    have hf:=Aq f b d;have q:=O hf;clear f d b hf
    go_wp2_with fail
    go_ret;exact⟨by rw[q];rfl,i⟩
  .obtain rfl:k=n:=by omega
   have hf:l.findIdx? (· ==s)=none:=vC (fun y A=>b y (by rw[aM (by have:=t.out;omega)];exact A));have q:=O hf;clear hf
   go_wp2_with fail
   go_ret;exact⟨by rw[q];rfl,i⟩
end Go.Proofs.YtgohdcccfkjooaaGreatDoor
