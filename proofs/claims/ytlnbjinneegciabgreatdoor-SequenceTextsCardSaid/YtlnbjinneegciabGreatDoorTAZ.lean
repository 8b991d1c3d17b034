import Derived.Test.YtlnbjinneegciabGreatDoorTAV
namespace Go.Proofs.YtlnbjinneegciabGreatDoor
set_option linter.all false
set_option maxRecDepth 100000
set_option maxHeartbeats 6400000
open Go.Proofs.Tryz Go.RowKit
def ZD(a x y:List UInt8):bs a++bs x++({data:=#[32]}:ByteArray)++bs y++({data:=#[10]}:ByteArray)=bs (a++iF [x,y]):=by
 rw[show({data:=#[32]}:ByteArray)=bs [32]from rfl,show({data:=#[10]}:ByteArray)=bs [10]from rfl];simp[oQ,iF,nN]
def ZF{q:Nat}(h1:1<=q)(h2:q<=17):IntKind.i64.wrap ((q:Int)-1)=(q:Int)-1:=by
 have:∀q:Nat,q<18->1<=q->IntKind.i64.wrap ((q:Int)-1)=(q:Int)-1:=by decide+kernel
 exact this q (by omega) h1
def YW(x y:List UInt8):(iF [x,y]).length=x.length+y.length+2:=by simp[iF,nN];omega
def V8(s:gW)(a:Option Addr)(n c f m:Nat)(fi S:Int)(w:World)(a1:fi=(f:Int))(b9:S+1=((f+m:Nat):Int))(h1:1<=f)(h2:f+m<=18)(hr:∀p,-1000000000<=s.get p/\s.get p<=1000000000)(hl:(ub s f m).length<=1000000):
 Calls prog 77 #[.agg (⟨s,a,n,c⟩:jt),fi,S] w (iZ w (.string (bs (ub s f m)))):=by
 have x:=Y.new w s a n c;have hb:=(TH w.heap.size w).alloc (ag _) (.cells (⟨s,a,n,c⟩:jt) 58);obtain⟨NV,F⟩:∃v,v=YX:=⟨_,rfl⟩
 have a4:∀w,Calls prog 44 #[] w (iZ w NV):=fun w=>by rw[F];exact YH w
 have a2:∀q:Nat,1<=q->q<=17-> ∀y,(Instr.index 131 NV (.int .i64 ((q:Int)-1))).run prog y=.ok (.string (bs (km q))) y:=fun q h1 h2 y=>by
  rw[F,show(q:Int)-1=((q-1:Nat):Int)by omega];exact YE (q-1) (by omega) y
 have b:=O x;have j:=O hb;have Hr:=O hr;have Hl:=O hl;have b2:=O a4;have b0:=O a2;clear x hb hr hl a4 a2 F;go_enter func77,ntmps77;go_upto_region 1 with fail;refine gI (fun wx=>Y wx w.heap.size s a n c/\Below w.heap.size w wx) ⟨b,j⟩ ?_;clear b j;rintro w1 ⟨x,hb⟩;have b:=O x;have j:=O hb;clear x hb;go_wp2
 go_loopw [7,8] (fun v pv wr=>∃k q:Nat,q=f+k/\k<=m/\pv=.int .i64 (q:Int)/\v=.string (bs (ub s f k))/\Y wr w.heap.size s a n c/\Below w.heap.size w wr) (fun _ pv _=>f+m-(intOf pv).toNat)
 case atStart=>exact⟨0,f,rfl,aA _,by rw[a1],rfl,b,j⟩
 case round=>
  clear b j;obtain⟨k,q,N,hk,rfl,rfl,x,hb⟩:=hrel;have b:=O x;have j:=O hb;clear x hb;by_cases b6:k<m
  .have b7:(q:Int)<=S:=by omega
   have r:1<=q:=by omega
   have t:q<=17:=by omega
   have a5:ub s f (k+1)=ub s f k++Ld s q:=by
    rw[N];exact nA (fun i=>Ld s (f+i)) k
   have h:(ub s f k++Ld s q).length<=1000000:=by
    rw[N];have:=Yi (l:=[]) (Yv (fun i=>Ld s (f+i)) b6) Hl;exact this
   have D:Ld s q=if s.get (q:Int)=0 then[]else iF [km q,iz (s.get (q:Int)) (oo q)]:=rfl
   have b8:=Hr (q:Int);have hd:=yP q;have u:=O D;have W:=O a5;have Q:=O h;have R:=O N;clear D a5 h N a1 b9;by_cases hz:s.get (q:Int)=0
   .have Hz:=O hz
    go_wp2_with(first
     |(refine gO b rfl (.tmp 3) rfl rfl ?_)
     |((with_reducible refine(YI s a n c q _ r t).mono ?_);rintro e w2 ⟨rfl,g⟩;rw[Hz];have o:=O g;clear g))
    go_roundw
    case rel=>exact⟨k+1,q+1,by rw[R];omega,by omega,by go_num,by rw[W,u,aq Hz.out,bG],Y.go b o (b.lt),I j o⟩
    case measure=>have:=R.out;simp[intOf];omega
   .have M:=u.out
    rw[aj hz]at M;have X:=O M;clear M u
    go_upto_region 7 with(first
     |(refine gO b rfl (.tmp 3) rfl rfl ?_)
     |((with_reducible refine(YI s a n c q _ r t).mono ?_);rintro e w2 ⟨rfl,g⟩;have o:=O g;clear g))
    have a6:=b0 q r t;have b5:=yb q w2 r t;have h:=Q.out;rw[X,al,YW]at h;have b4:=O a6;have b3:=O (ZF r t);clear a6 b5;have a7:=Y.go b o b.lt;have g:=I j o;have T:=O a7;have a8:=O g;clear a7 g b j o
    have a0:=fun w=>kz (s.get (q:Int)) (oo q) w (by omega) (by omega) hd
    have C:=fun w=>yb q w r t
    have a9:=O a0;have P:=O C;clear a0 C b8;generalize s.get (q:Int)=z at*;generalize oo q=dg at*;generalize iz z dg=nt at*;generalize km q=nm at*;generalize ub s f k=Jq0 at*;have a3:=ZD Jq0 nm nt;have b1:=O a3;clear a3;refine gS 13 [(0,true),(2,true),(3,true),(7,true),(8,true),(1,false),(4,true),(5,true),(6,true),(9,false),(10,false),(11,true),(12,true)] (by kernel_rfl) (by kernel_rfl) ?_
    iterate 5
     refine gU (v:=?_) ?_ ?_;rotate_left
     .intro y hy
      have zw:=b3.out;go_simp;with_reducible rfl
     try simp only[V]
    refine gP (fun E d=>?_);go_simp;refine(b2 _).mono ?_;rintro _ w3 ⟨rfl,H⟩;refine d _ _ H ?_;clear d E;try simp only[V]
    iterate 3
     refine gU (v:=?_) ?_ ?_;rotate_left
     .intro y hy
      have zi:=b4 y
      have z1:¬9223372036854775807<Jq0.length+nm.length:=by omega
      have z2:¬9223372036854775807<Jq0.length+nm.length+1:=by omega
      go_simp;with_reducible rfl
     try simp only[V]
    refine gP (fun E d=>?_);go_simp;refine(P _).mono ?_;rintro _ w4 ⟨rfl,K⟩;refine d _ _ K ?_;clear d E;(try simp only[V]);refine gP (fun E d=>?_);go_simp;refine(a9 _).mono ?_;rintro _ w5 ⟨rfl,L⟩;refine d _ _ L ?_;clear d E;try simp only[V]
    iterate 2
     refine gU (v:=?_) ?_ ?_;rotate_left
     .intro y hy
      have z1:¬9223372036854775807<Jq0.length+nm.length+1+nt.length:=by omega
      have z2:¬9223372036854775807<Jq0.length+nm.length+1+nt.length+1:=by omega
      go_simp;with_reducible rfl
     try simp only[V]
    refine iu rfl ?_;have B:=gJ (k:=1) (I H (I K L));have A:=O B;clear H K L B;go_wp2
    go_roundw
    case rel=>exact⟨k+1,q+1,by rw[R];omega,by omega,by go_num,by rw[W,X,b1],Y.go T A T.lt,I a8 A⟩
    case measure=>have:=R.out;simp[intOf];omega
  .have b7:¬(q:Int)<=S:=by omega
   obtain rfl:k=m:=by omega
   clear N;go_wp2;go_ret;exact⟨rfl,j⟩
def YO(a w t:List UInt8):bs a++bs (w++[32])++bs t++bs [10]=bs (a++iF [w,t]):=by simp[oQ,iF,nN]
def Zm(c w a b:List UInt8):bs c++bs (w++[32])++bs a++bs [32]++bs b++bs [10]=bs (c++iF [w,a,b]):=by simp[oQ,iF,nN]
def Zn(d w a b c:List UInt8):bs d++bs (w++[32])++bs a++bs [32]++bs b++bs [32]++bs c++bs [10]=bs (d++iF [w,a,b,c]):=by simp[oQ,iF,nN]
def nB(w t:List UInt8):(iF [w,t]).length=w.length+t.length+2:=by simp[iF,nN];omega
def Zo(l:List UInt8)(x:gM)(k:Nat):bs (Yh l x k)++bs (ib x k)=bs (Yh l x (k+1)):=oQ _ _
def YG(w a b c:List UInt8):(iF [w,a,b,c]).length=w.length+a.length+b.length+c.length+4:=by simp[iF,nN];omega
def ZW(k t:List UInt8):bs (nq++[32])++bs k++bs [10]++bs t=bs (iF [nq,k]++t):=by simp[oQ,iF,nN]
def Zx{e:Oper}{d:Act}{y:World}{b:Nat}{s:gW}{a:Option Addr}{n c:Nat}(h:Y y b s a n c)(z:Operand)(f:e.op=.load 58 z)(g:d.eval z=.pointer (J b)):
 (execOp d.eval e).run prog y=.ok (.value (.agg (⟨s,a,n,c⟩:jt))) y:=by
 unfold execOp;simp only[f,g,Instr.loadAt,Instr.sureAddr,bR,cT,bU,run_loadVar_mid y b 0 58 [s.kind,s.r9,s.i4,s.i5,s.cm,s.a0,s.a1,s.a2,s.a3,s.p0,s.p1,s.order,s.tg,s.gA,s.i6,s.i7,s.dx,s.dy,s.ax,s.ay,s.az,Z a n c] _ h.range underlying58 rfl Tryz.infoSurf]
def YJ{R:World->World->Prop}{ops:Array Oper}{Q:Exit->Act->World->Prop}{N i:Nat}{f:List (Nat×Bool)}{g:Oper}{j:Act}{w:World}{b:Nat}{s:gW}{a:Option Addr}{n c:Nat}(hi:ops.toList[i]? =some g)(k:∀d e w,Q (.panic d) (e.put g.dst (.agg (⟨s,a,n,c⟩:jt))) w->Q (.panic d) e w)
 (hw:Region.wanted g (yielded ops j.tmps)=true)(h:∀y,R w y->Y y b s a n c)(z:Operand)(m:g.op=.load 58 z)(o:j.eval z=.pointer (J b))
 (l:tA R prog ops Q N f (j.put g.dst (.agg (⟨s,a,n,c⟩:jt))) w):tA R prog ops Q N ((i,true)::f) j w:=
 gU (fun y p=>Zx (h y p) z m o) l hi k hw
structure TS (w:World) (b:Nat) (s:gW) (a:Option Addr) (n c:Nat) (W:World):Prop where
 s:Y W b s a n c
 be:Below w w W
 hb:b=w.heap.size
def TS.go{w:World}{b:Nat}{s:gW}{a:Option Addr}{n c:Nat}{W W':World}(h:TS w b s a n c W)(hb:Below W W W'):TS w b s a n c W':=⟨Y.go h.s hb h.s.lt,I h.be hb,h.hb⟩
def YS(x:gM)(a:Option Addr)(n c:Nat)(w:World)(ho:tr x=true)(i:IR w.heap.size w 3 a n c x.zs)(hn:n<=1000000)(hl:(oq x).length<=1000000):
 Calls prog 43 #[.agg (⟨x.s,a,n,c⟩:jt)] w (iZ w (.string (bs (oq x)))):=by
 have hb:=(TH w.heap.size w).alloc (ag _) (.cells (⟨x.s,a,n,c⟩:jt) 58);have e:TS w w.heap.size x.s a n c (w.alloc (.cells (⟨x.s,a,n,c⟩:jt) 58)):=⟨Y.new w x.s a n c,hb,rfl⟩;have a0:oA x.s x.zs (x.zs.length/3)=true:=ho;obtain⟨d7,d8⟩:=vT a0;obtain⟨j,X,H⟩:∃j:Nat,x.s.kind=(j:Int)+1/\j<4:=⟨(x.s.kind-1).toNat,by omega,by omega⟩;obtain⟨N,hh,c0⟩:=uG a0
 have b1:∀k,k<=8->(Yh [] x k).length<=1000000:=fun k hk=>by
  have h1:=Yp [] x k (8-k);rw[show k+(8-k)=8 by omega,Yl]at h1;exact af h1 hl
 have a1:∀k,k<8->(ib x k).length<=1000000:=fun k hk=>by
  have:=b1 (k+1) (by omega);rw[Yh,al]at this;omega
 obtain⟨KV,a4⟩:∃v,v=Zh:=⟨_,rfl⟩
 have L:∀w,Calls prog 76 #[] w (iZ w KV):=fun w=>by rw[a4];exact Y5 w
 have b8:∀y,(Instr.index 156 KV (.int .i64 (x.s.kind-1))).run prog y=.ok (.string (bs (kP.getD j []))) y:=fun y=>by
  rw[a4,X,show(j:Int)+1-1=(j:Int)by omega];exact Y3 j H y
 have b9:IntKind.i64.wrap (x.s.kind-1)=x.s.kind-1:=by rw[X];exact(by decide+kernel:∀k:Nat,k<4->IntKind.i64.wrap ((k:Int)+1-1)=(k:Int)+1-1) j H
 have h0:ib x 0=iF [nq,kP.getD j []]:=by
  show iF [nq,kP.getD (x.s.kind-1).toNat []]=_
  rw[X,show(j:Int)+1-1=(j:Int)by omega,aI]
 have B:=O e;have c9:=O a0;have Hz:=O i;have C:=O b1;have a3:=O N;have c7:=O L;have c6:=O b8;have H0:=O h0;have Hh:=O hh;have d3:=O c0;have D:=O a1;have c8:=O b9;clear b9 e a0 ho i hl b1 N L b8 h0 hb a4 X d7 d8 hh c0 a1
 have e5:(kP.getD j []).length<=20:=by
  match j,H with
  |0,_=>decide
  |1,_=>decide
  |2,_=>decide
  |3,_=>decide
 generalize kP.getD j []=kw at*;go_enter func43,ntmps43;go_upto_region 1 with fail;refine gI (fun S=>TS w w.heap.size x.s a n c S) B ?_;clear B;rintro w1 e;have B:=O e;have hlt:=e.s.lt;have d9:=D 1 (by decide);clear e;have r:=V8 x.s a n c 1 10 1 10;have o:=O r;clear r;have e1:ub x.s 1 10=ib x 1:=rfl;have E1:=O e1;clear e1;refine gS 10 [(1,true),(2,true),(3,true),(7,true),(0,false),(4,true),(5,true),(6,true),(8,false),(9,true)] (by kernel_rfl) (by kernel_rfl) ?_
 iterate 3
  refine gU (v:=?_) ?_ ?_;rotate_left
  .intro y t
   have zw:=c8.out;have k0:=VV (Y.go B.s (gJ (k:=1) t) hlt) 0;go_simp;with_reducible rfl
  try simp only[V]
 refine YJ rfl (fun _ _ _ h=>h) (by rfl) (fun y t=>Y.go B.s (gJ (k:=1) t) hlt) (.tmp 1) rfl rfl ?_;(try simp only[V]);refine gP (fun F f=>?_);go_simp;refine(c7 _).mono ?_;rintro _ w2 ⟨rfl,a5⟩;refine f _ _ a5 ?_;clear f F;try simp only[V]
 iterate 3
  refine gU (v:=?_) ?_ ?_;rotate_left
  .intro y t
   have zi:=c6 y
   have z1:¬9223372036854775807<8+kw.length:=by omega
   have z2:¬9223372036854775807<8+kw.length+1:=by omega
   go_simp;with_reducible rfl
  try simp only[V]
 refine gP (fun F f=>?_);go_simp;refine(o _ rfl rfl (by decide) (by decide) a3 (by rw[E1];exact d9)).mono ?_;rintro _ w3 ⟨rfl,a6⟩;rw[E1];refine f _ _ a6 ?_;clear f F;(try simp only[V]);generalize hP1:ib x 1=P1 at*
 iterate 1
  refine gU (v:=?_) ?_ ?_;rotate_left
  .intro y t
   have z1:¬9223372036854775807<8+kw.length+1+P1.length:=by omega
   go_simp;with_reducible rfl
  try simp only[V]
 refine iu rfl ?_;have a2:=B.go (gJ (k:=1) (I a5 a6));have u:=O a2;clear a5 a6 a2 B hlt E1 o;have e2:({data:=#[115,117,114,102,97,99,101,32]}:ByteArray)++bs kw++({data:=#[10]}:ByteArray)++bs P1=bs (Yh [] x 2):=(ZW kw P1).trans (by rw[Yh,Yh,Yh,H0,hP1,bD]);rw[e2];clear e2;have kh:w3.cell? ⟨w.heap.size,15,none⟩=some (.int .i64 x.s.i7):=VV u.s 15
 go_upto_if 18 with fail
 go_cut [3] (fun v3 S=>v3=.string (bs (Yh [] x 3))/\TS w w.heap.size x.s a n c S)
 case first=>
  have d:ib x 2=if x.s.i7=0 then[]else iF [lB,iz x.s.i7 6]:=rfl
  have N:=Hh.out;have P:Yh [] x 3=Yh [] x 2++ib x 2:=rfl;have K:=O P;clear P;have Q:=C 2 (by decide);have q:=D 2 (by decide);by_cases i:x.s.i7=0
  .have R:(x.s.i7 !=0)=false:=by simpa using i
   rw[aq i]at d;have g:=O d;clear d i q;simp only[R];go_wp2;go_meet;exact⟨by rw[K,g,bG],u⟩
  .have R:(x.s.i7 !=0)=true:=by simpa using i
   rw[aj i]at d;rw[d,nB]at q;have g:=O d;clear d i;simp only[R]
   go_wp2_with(refine(kz x.s.i7 6 _ (by omega) (by omega) (by decide)).mono ?_;rintro _ w4 ⟨rfl,hb⟩;have E:=O hb;clear hb)
   go_meet;exact⟨ai Value.string ((YO (Yh [] x 2) lB (iz x.s.i7 6)).trans (by rw[K,g])),u.go E⟩
 case rest=>
  obtain⟨rfl,e⟩:=hcut;have l:=O e;clear e kh u;have hp:=D 3 (by decide);have Q:=C 3 (by decide)
  have r:∀w,Calls prog 77 #[.agg (⟨x.s,a,n,c⟩:jt),.int .i64 11,.int .i64 15] w (iZ w (.string (bs (ib x 3)))):=fun w=>V8 x.s a n c 11 5 11 15 w rfl rfl (by decide) (by decide) a3 hp
  have o:=O r;clear r
  go_upto_region 5 with(first
   |(refine gO l.s rfl (.tmp 1) rfl rfl ?_)
   |((with_reducible refine(o.out _).mono ?_);rintro _ w5 ⟨rfl,hb⟩;have E:=O hb;clear hb))
  rw[Zo];have z:=O (l.go E);clear E l o hp Q;have kh:w5.cell? ⟨w.heap.size,11,none⟩=some (.int .i64 x.s.order):=VV z.s 11
  go_upto_if 32 with fail
  go_cut [3] (fun v3 S=>v3=.string (bs (Yh [] x 5))/\TS w w.heap.size x.s a n c S)
  case first=>
   have d:ib x 4=if x.s.order=0 then[]else iF [kj,iz x.s.order 0]:=rfl
   have N:=d3.out;have P:Yh [] x 5=Yh [] x 4++ib x 4:=rfl;have K:=O P;clear P;have Q:=C 4 (by decide);have q:=D 4 (by decide);by_cases i:x.s.order=0
   .have R:(x.s.order !=0)=false:=by simpa using i
    rw[aq i]at d;have g:=O d;clear d i q;simp only[R];go_wp2;go_meet;exact⟨by rw[K,g,bG],z⟩
   .have R:(x.s.order !=0)=true:=by simpa using i
    rw[aj i]at d;rw[d,nB]at q;have g:=O d;clear d i;simp only[R]
    go_wp2_with(refine(kz x.s.order 0 _ (by omega) (by omega) (by decide)).mono ?_;rintro _ w4 ⟨rfl,hb⟩;have E:=O hb;clear hb)
    go_meet;exact⟨ai Value.string ((YO (Yh [] x 4) kj (iz x.s.order 0)).trans (by rw[K,g])),z.go E⟩
  case rest=>
   obtain⟨rfl,e⟩:=hcut;have m:=O e;clear e kh z;have hp:=D 5 (by decide);have Q:=C 5 (by decide)
   have r:∀w,Calls prog 77 #[.agg (⟨x.s,a,n,c⟩:jt),.int .i64 16,.int .i64 17] w (iZ w (.string (bs (ib x 5)))):=fun w=>V8 x.s a n c 16 2 16 17 w rfl rfl (by decide) (by decide) a3 hp
   have o:=O r;clear r
   go_upto_region 8 with(first
    |(refine gO m.s rfl (.tmp 1) rfl rfl ?_)
    |((with_reducible refine(o.out _).mono ?_);rintro _ w7 ⟨rfl,hb⟩;have E:=O hb;clear hb))
   rw[Zo];have A:=O (m.go E);clear E m o hp Q;have c2:w7.cell? ⟨w.heap.size,13,none⟩=some (.string x.s.gA):=VV A.s 13
   have d:ib x 6=if VX x.s.gA=[]then[]else iF [lP,VX x.s.gA]:=rfl
   rw[<- qO x.s.gA]at c2;have Q:=C 6 (by decide);have q:=D 6 (by decide);have g:=O d;clear d;generalize VX x.s.gA=gl at*
   go_upto_if 46 with fail
   go_cut [3] (fun v3 S=>v3=.string (bs (Yh [] x 7))/\TS w w.heap.size x.s a n c S)
   case first=>
    have d:=g.out;have P:Yh [] x 7=Yh [] x 6++ib x 6:=rfl;have K:=O P;clear P;by_cases hgl:gl=[]
    .subst hgl
     rw[aq rfl]at d;have d4:=O d;clear d;go_wp2;go_meet;exact⟨by rw[K,d4,bG],A⟩
    .have d6:gl.isEmpty=false:=by rw[List.isEmpty_eq_false_iff];exact hgl
     rw[aj hgl]at d;rw[d,nB]at q;have g:=O d;clear d;simp only[d6,fT];go_wp2;go_meet;exact⟨ai Value.string ((YO (Yh [] x 6) lP gl).trans (by rw[K,g])),A⟩
   case rest=>
    obtain⟨rfl,e⟩:=hcut;have b3:=O e;clear e c2 g A Q q
    have e3:x.zs.length/3=n:=by have:=Hz.1;omega
    have h7:ib x 7=((List.range n).map (V3 x.zs)).flatten:=by rw[<- e3];rfl
    have e6:n<=c:=Hz.2.1;have H7:=O h7;clear h7;go_wp2
    go_loopw [3,4] (fun v iv wr=>∃k:Nat,k<=n/\iv=.int .i64 (k:Int)/\v=.string (bs (Yh [] x 7++((List.range k).map (V3 x.zs)).flatten))/\TS w w.heap.size x.s a n c wr) (fun _ iv _=>n-(intOf iv).toNat)
    case atStart=>exact⟨0,aA _,rfl,by simp,b3⟩
    case round=>
     obtain⟨k,hk,rfl,rfl,c1⟩:=hrel;have T:=O c1;clear c1;have e7:wr.cell? ⟨w.heap.size,21,none⟩=some (.slice a n c):=VV T.s 21;by_cases L:k<n
     .obtain⟨b,off,d5,e4,z0,z1,z2⟩:=(Hz.below T.be (ag _)).at3 L
      have N:=wH c9 (k:=k) (by omega);have b0:V3 x.zs k=iF [lG,iz (x.zs.getD (k*3) 0) 7,iz (x.zs.getD (k*3+1) 0) 0,iz (x.zs.getD (k*3+2) 0) 0]:=rfl;have W:=C 8 (by decide);rw[Yh,H7]at W;have W:=Yi (Yv (V3 x.zs) L) W;rw[b0,<- aC,al,YG]at W;have b7:=nA (V3 x.zs) k;have c5:=O b0;have c4:=O b7;clear b0 b7;generalize x.zs.getD (k*3) 0=q0 at*;generalize x.zs.getD (k*3+1) 0=q1 at*;generalize x.zs.getD (k*3+2) 0=q2 at*;generalize hJ:Yh [] x 7++((List.range k).map (V3 x.zs)).flatten=Jq0 at*;have HJ:=O hJ;clear hJ;subst d5;go_upto_region 14 with fail;have M:=TL wr (.cells #[q0,q1,q2] 60);have b5:Below wr wr (wr.alloc (.cells #[q0,q1,q2] 60)):=(TH _ _).alloc (ag _) _;have e0:=VV M 0;have e1:=VV M 1;have e2:=VV M 2;have b2:=TK M;have b4:=O b5;clear M b5 z0 z1 z2
      have d0:=fun w=>kz q0 7 w (by omega) (by omega) (by decide)
      have d1:=fun w=>kz q1 0 w (by omega) (by omega) (by decide)
      have d2:=fun w=>kz q2 0 w (by omega) (by omega) (by decide)
      have D0:=O d0;have D1:=O d1;have D2:=O d2;clear d0 d1 d2;generalize iz q0 7=t0 at*;generalize iz q1 0=t1 at*;generalize iz q2 0=t2 at*;refine gS 17 [(0,true),(1,true),(2,true),(3,true),(7,true),(8,true),(12,true),(13,true),(4,false),(5,true),(6,true),(9,false),(10,true),(11,true),(14,false),(15,true),(16,true)] (by kernel_rfl) (by kernel_rfl) ?_
      iterate 8
       refine gU (v:=?_) ?_ ?_;rotate_left
       .intro y t
        have k1:=(t.cell (p:=J (wr.heap.size)) b2).trans e0;have k2:=(t.cell (p:=⟨wr.heap.size,1,none⟩) b2).trans e1;have k3:=(t.cell (p:=⟨wr.heap.size,2,none⟩) b2).trans e2
        have z0:¬9223372036854775807<Jq0.length+5:=by omega
        go_simp;with_reducible rfl
       try simp only[V]
      clear e0 e1 e2;refine gP (fun F f=>?_);go_simp;refine(D0 _).mono ?_;rintro _ wa ⟨rfl,a7⟩;refine f _ _ a7 ?_;clear f F;try simp only[V]
      iterate 2
       refine gU (v:=?_) ?_ ?_;rotate_left
       .intro y t
        have z0:¬9223372036854775807<Jq0.length+5+t0.length:=by omega
        have z1:¬9223372036854775807<Jq0.length+5+t0.length+1:=by omega
        go_simp;with_reducible rfl
       try simp only[V]
      refine gP (fun F f=>?_);go_simp;refine(D1 _).mono ?_;rintro _ wb ⟨rfl,a8⟩;refine f _ _ a8 ?_;clear f F;try simp only[V]
      iterate 2
       refine gU (v:=?_) ?_ ?_;rotate_left
       .intro y t
        have z0:¬9223372036854775807<Jq0.length+5+t0.length+1+t1.length:=by omega
        have z1:¬9223372036854775807<Jq0.length+5+t0.length+1+t1.length+1:=by omega
        go_simp;with_reducible rfl
       try simp only[V]
      refine gP (fun F f=>?_);go_simp;refine(D2 _).mono ?_;rintro _ wd ⟨rfl,a9⟩;refine f _ _ a9 ?_;clear f F;try simp only[V]
      iterate 2
       refine gU (v:=?_) ?_ ?_;rotate_left
       .intro y t
        have z0:¬9223372036854775807<Jq0.length+5+t0.length+1+t1.length+1+t2.length:=by omega
        have z1:¬9223372036854775807<Jq0.length+5+t0.length+1+t1.length+1+t2.length+1:=by omega
        go_simp;with_reducible rfl
       try simp only[V]
      refine iu rfl ?_;have b6:=b4.drew.trans ((I a7 (I a8 a9)).mono b4.drew.size);have c3:=O b6;clear b6 a7 a8 a9;go_wp2
      go_roundw
      case rel=>exact⟨k+1,by omega,by go_num,ai Value.string ((Zn Jq0 lG t0 t1 t2).trans (by rw[c4,<- aC,HJ,c5])),T.go c3⟩
      case measure=>simp[intOf];omega
     .obtain rfl:k=n:=by omega
      have e8:Yh [] x 7++((List.range k).map (V3 x.zs)).flatten=oq x:=by rw[<- H7];exact Yl [] x
      have E8:=O e8;clear e8;go_wp2;go_ret;exact⟨by rw[<- E8];rfl,T.be⟩
