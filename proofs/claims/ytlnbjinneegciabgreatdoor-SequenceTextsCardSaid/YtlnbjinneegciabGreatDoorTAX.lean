import Derived.Test.YtlnbjinneegciabGreatDoorTAV
import Derived.Test.YtlnbjinneegciabGreatDoorTAR
namespace Go.Proofs.YtlnbjinneegciabGreatDoor
set_option linter.all false
set_option maxRecDepth 100000
set_option maxHeartbeats 6400000
open Go.Proofs.Tryz Go.RowKit
def Az{B g c:Nat}{D:Nat->Prop}{r:jL}{ws:List (List UInt8)}{W W':World}{e:Ending}(h:iE B g r.at_ c D (kp r ws) W e W')(hat:∀q,kp r ws=some q->q.at_=r.at_):pI (At B g) g c D r ws W e W':=by
 obtain⟨h1,h2,h3⟩:=h;refine⟨h1,h2,h3.imp ?_ id⟩;rintro⟨q,a,b,D',d,h5⟩;refine⟨q,a,b,D',d,?_⟩
 show vM B g q.at_ _ _ _ _
 rw[hat q a];exact h5
def lT{B g c:Nat}{D:Nat->Prop}{r:jL}{ws:List (List UInt8)}{W W':World}(h:kp r ws=none)(hb:Below W W W')(a:g<=W.heap.size):pI (At B g) g c D r ws W iX W':=
 ⟨hb.mono a,fun k b _=>hb.block k b,VS ⟨h,rfl⟩⟩
def qg{B g c k:Nat}{D:Nat->Prop}{r:jL}{y:gR}{ws:List (List UInt8)}{W W':World}(h:iE B g r.at_ c D (some ⟨y,(k:Int),[]⟩) W (.returned (.tuple #[])) W')(l:kp r ws=some ⟨y,(k:Int),[]⟩)(d:D g):pI (At B g) g c D r ws W (.returned (.tuple #[])) (W'.setCell ⟨g,9,none⟩ (.int .i64 (k:Int))):=by
 obtain⟨h1,h2,h3⟩:=h
 obtain ⟨q,f,_,D',i,h5⟩|⟨e,_⟩:=h3
 .cases f
  exact⟨kZ h1 (ag _),fun b j a=>(iS (fun e=>a (by rw[e];exact d))).trans (h2 b j a),VR ⟨_,l,rfl,D',i,h5.put⟩⟩
 .cases e
def sX(r:jL)(k:Nat):Prop:=(k:Int)=r.at_+1\/(5<=k/\4<=r.at_/\r.at_<=(k:Int))
def uI{B g cc n c N k:Nat}{j:Int}{D:Nat->Prop}{r:jL}{W:World}{ws:List (List UInt8)}{a:Option Addr}(l:k<10)(h:vM B g j cc D r W)(p:sX r k)(z:r.at_≠9)(hw:ua W a n c ws W)(e:∀s∈ws,s.length<=100000)(o:ws.length<=100000)(d:cc<=100001)(b:B<=W.heap.size)(i:GW W)(u:TW N W)(t:N<=W.heap.size):
 Calls prog (RB k) #[U g,Z a n c] W (iE B g j cc D ((jk r.x k ws).map fun y=>⟨y,(k:Int),[]⟩) W):=by
 have w:r.at_<=9:=by obtain⟨f,v,s,k,m,A,q⟩:=h;exact q.hi
 unfold sX at p
 match k,l with
 |0,_=>exact LM h hw e (by omega) d b i
 |1,_=>exact FM h hw e (by omega) d b i
 |2,_=>exact IE h hw e (by omega) d b i
 |3,_=>exact LN h hw e (by omega) d b i
 |4,_=>exact DK h hw e (by omega) d b i
 |5,_=>exact IF h hw e o (by omega) d b i
 |6,_=>exact LQ h hw e o (by omega) d b i
 |7,_=>exact DM h hw (by omega) d b u t
 |8,_=>exact FO h hw e (by omega) d b
 |9,_=>exact N0 h hw (by omega) d b
 |k+10,l=>omega
def IJ{r:jL}{ws:List (List UInt8)}(h:r.at_=9):kp r ws=none:=by unfold kp;rw[aq h]
def IK{r:jL}{a:List UInt8}{ws:List (List UInt8)}{k:Nat}(b:r.at_≠9)(c:kV.findIdx? (· ==a)=some k):(sX r k->kp r (a::ws)=(jk r.x k ws).map fun y=>⟨y,(k:Int),[]⟩)/\(¬sX r k->kp r (a::ws)=none):=by
 constructor
 .intro h
  unfold kp;simp only[aj b,c];exact aq h
 .intro h
  unfold kp;simp only[aj b,c];exact aj h
def IL{r:jL}{a:List UInt8}{ws:List (List UInt8)}(b:r.at_=7)(c:kV.findIdx? (· ==a)=none):kp r (a::ws)=lX r a ws:=by
 unfold kp lX;simp only[aj (show¬r.at_=9 by omega),c,aq b]
def DR{r:jL}{ws:List (List UInt8)}(a:r.at_=8):kp r (lj::ws)=mh r lj ws:=by
 have b:kV.findIdx? (· ==lj)=none:=by decide
 unfold kp mh;simp only[aj (show¬r.at_=9 by omega),b,aj (show¬r.at_=7 by omega)];rw[aq ⟨a,trivial⟩]
def yt{r:jL}{a:List UInt8}{ws:List (List UInt8)}(d:r.at_≠9)(b:r.at_≠7)(c:¬(r.at_=8/\a=lj))(e:kV.findIdx? (· ==a)=none):kp r (a::ws)=none:=by
 unfold kp;simp only[aj d,e,aj b,aj c]
def Og{r q:jL}{a:List UInt8}{ws:List (List UInt8)}(h:lX r a ws=some q):q.at_=7:=by
 unfold lX at h;split at h
 .cases h
 .cases hp:ou r.x.l (fun y=>Ad y (a::ws))with
  |none=>rw[hp]at h;cases h
  |some l=>rw[hp]at h;cases h;rfl
def IM{r q:jL}{a:List UInt8}{ws:List (List UInt8)}(h:mh r a ws=some q):q.at_=8:=by
 unfold mh at h
 cases hp:ou r.x.cf (fun c=>sP c (a::ws))with
 |none=>rw[hp]at h;cases h
 |some l=>rw[hp]at h;cases h;rfl
def Oh(args:Array Value)(w:World):(callFunc 297 args).run prog w=.ok (.enter 297 args) w:=by kernel_rfl
def Oi(args:Array Value)(w:World):(callFunc 298 args).run prog w=.ok (.enter 298 args) w:=by kernel_rfl
def Oj(args:Array Value)(w:World):(callFunc 299 args).run prog w=.ok (.enter 299 args) w:=by kernel_rfl
def Ol(args:Array Value)(w:World):(callFunc 300 args).run prog w=.ok (.enter 300 args) w:=by kernel_rfl
def Om(args:Array Value)(w:World):(callFunc 301 args).run prog w=.ok (.enter 301 args) w:=by kernel_rfl
def On(args:Array Value)(w:World):(callFunc 302 args).run prog w=.ok (.enter 302 args) w:=by kernel_rfl
def Oo(args:Array Value)(w:World):(callFunc 303 args).run prog w=.ok (.enter 303 args) w:=by kernel_rfl
def Oq(args:Array Value)(w:World):(callFunc 304 args).run prog w=.ok (.enter 304 args) w:=by kernel_rfl
def Ot(args:Array Value)(w:World):(callFunc 305 args).run prog w=.ok (.enter 305 args) w:=by kernel_rfl
def Ou(args:Array Value)(w:World):(callFunc 306 args).run prog w=.ok (.enter 306 args) w:=by kernel_rfl
def uJ(k:Nat)(a:k<10):∀args w,(callFunc (RB k) args).run prog w=.ok (.enter (RB k) args) w:=by
 match k,a with
 |0,_=>exact Oh
 |1,_=>exact Oi
 |2,_=>exact Oj
 |3,_=>exact Ol
 |4,_=>exact Om
 |5,_=>exact On
 |6,_=>exact Oo
 |7,_=>exact Oq
 |8,_=>exact Ot
 |9,_=>exact Ou
 |k+10,a=>omega
def Tryz.zeroRdr(w:World):(zeroValue 208).run prog w=.ok .nilFunc w:=by kernel_rfl
def AA{B g:Nat}{a:Int}{c:Nat}{D:Nat->Prop}{b:Option jL}{W W':World}{e:Ending}(h:iE B g a c D b W e W'):e=.returned (.tuple #[])\/e=iX:=by
 obtain ⟨_,_,h,_⟩|⟨_,h⟩:=h.2.2
 .exact VR h
 .exact VS h
def P8(a:Int):a=9\/((a !=9)=true):=by
 by_cases h:a=9
 .exact VR h
 .exact VS (by rw[fk];exact h)
def L9{B g c A:Nat}{D:Nat->Prop}{r:jL}{W:World}{l:List UInt8}{ws:List (List UInt8)}(h:At B g c D r W)(hw:ua W (J A) (ws.length+1) (ws.length+1) (l::ws) W)(hl:∀s∈l::ws,s.length<=100000)(hn:ws.length<=100000)(hc:c<=100001)(hB:B<=W.heap.size)(hg:GW W)(hT:TW g W):
 Calls prog 80 #[U g,Z (J A) (ws.length+1) (ws.length+1)] W (pI (At B g) g c D r (l::ws) W):=by
 obtain⟨e2,b6,d6,d5⟩:g<B/\D g/\ -1<=r.at_/\r.at_<=9:=by obtain⟨f,v,s,k,m,hA,hL⟩:=h;exact⟨hL.gB,hL.dg,hL.lo,hL.hi⟩
 have hgl:g<W.heap.size:=by omega
 obtain⟨c9,f9⟩:W.cell? ⟨g,9,none⟩=some (.int .i64 r.at_)/\W.frozen? ⟨g,9,none⟩=false:=by obtain⟨f,v,s,k,m,hA,hL⟩:=h;exact hA.cell 9
 have b4:W.cell? (J A)=some (.string (bs l)):=by
  obtain⟨g',off,e,_,h3⟩:=hw.2.2 (by omega);cases e;exact h3 0 l rfl
 have d1:A<W.heap.size:=by
  obtain⟨g',off,e,h3,_⟩:=hw.2.2 (by omega);cases e;exact h3
 obtain⟨oa,on,oc,ho,c2⟩:=hT.ord;have d8:on=10:=c2.1.symm;subst d8;have d7:3<W.heap.size:=eb (eb (show 3<14 by decide) hT.glo) (by omega);have H:=O h;have Hw:=O hw;have Hl:=O hl;have Hg:=O hg;have HT:=O hT;have c6:=O c2;have Hn:=O hn;clear h hw hl hg hT c2 hn f9;go_enter func80,ntmps80
 obtain h9|h9:=P8 r.at_
 .have hb:pI (At B g) g c D r (l::ws) W iX W:=lT (IJ h9) (TH _ _) (by omega)
  have b7:=hb;rw[h9]at c9;clear hb h9 b4 ho d6 d5;unfold iX at b7;have E:=O b7;clear b7;go_wp2_with fail;refine(lm _).mono ?_;rintro e w3 ⟨rfl,rfl⟩;unfold iX;go_wp2_with fail;exact⟨rfl,E⟩
 .have c8:r.at_≠9:=by rw[fk]at h9;exact h9
  have H9:=O c8;clear c8;go_wp2_with fail;refine(kW _).mono ?_;rintro e w3 ⟨rfl,rfl⟩;clear h9;go_upto_region 1 with fail;refine gS 5 [(0,true),(1,true),(2,true),(3,true),(4,false)] (by kernel_rfl) (by kernel_rfl) ?_
  iterate 4
   refine gU (v:=?_) ?_ ?_;rotate_left
   .intro y t
    have k1:=(t.cell (p:=J 3) d7).trans ho;have k2:=(t.cell (p:=J A) d1).trans b4;go_simp;with_reducible rfl
   try simp only[V]
  refine gP (fun KK d0=>?_);go_simp;refine(Ar kV l oa 10 oc g W.drew (c6.kept (fun _ _=>rfl) (ag _)) (show g<=W.heap.size by omega) (by omega)).mono ?_;rintro e j ⟨rfl,c1⟩;refine d0 _ _ c1 ?_;clear d0 KK;(try simp only[V]);refine iu rfl ?_;have Q:Below W W j:=(TH W W).drew.trans c1;have e4:=Q.size;have d9:j.cell? ⟨g,9,none⟩=some (.int .i64 r.at_):=(Q.cell (p:=⟨g,9,none⟩) hgl).trans c9;have T:j.cell? (J A)=some (.string (bs l)):=(Q.cell (p:=J A) d1).trans b4;have H4:=O (vM.go H Q);have N:=O Q;have b3:=O (sV Hw Q);have b2:=O (Hg.below Q);have S:=O (HT.below (Q.mono (by omega)));clear c1 Q c9 b4 ho H Hw Hg HT c6
  cases hk:kV.findIdx? (· ==l)with
  |some k=>
   have u:k<10:=qN hk;have i:=O (IK (ws:=ws) H9 hk);have Hk:=O hk;clear hk;unfold Lj
   have e3:(0:Int)<=(k:Int):=by omega
   by_cases h1:(k:Int)=r.at_+1
   .have d2:((k:Int)==r.at_+1)=true:=by rw[dz];exact h1
    have w:=O (show sX r k from VR h1);clear h1;go_wp2_with fail;refine(kW _).mono ?_;rintro e w5 ⟨rfl,rfl⟩;go_upto_region 4 with fail;have a6:4<j.heap.size:=eb (eb (show 4<14 by decide) S.glo) (by omega);obtain⟨ob,ol,b0,c4,a9,z⟩:=S.rdr
    have a1:ob<j.heap.size:=by omega
    have a8:∀y,Below j j y->(Instr.lookup 209 (.map (some ob)) (.string (bs l)) false).run prog y=.ok (.func (.func (RB k)) #[] #[]) y:=fun y t=>by
     rw[mM underlying209 underlying9 (Tryz.zeroRdr y) (a9.block (t.block ob a1)) l false,z l];unfold Fv;rw[Hk];rfl
    have a4:=O a8;clear a9 z a8
    have R:A<j.heap.size:=by omega
    have c3:g<j.heap.size:=by omega
    have a5:B<=j.drew.heap.size:=by show B<=j.heap.size;omega
    have a7:g<=j.drew.heap.size:=by show g<=j.heap.size;omega
    have a3:=O (N.drew);have K:Below j j j.drew:=(TH _ _).drew;have a2:=O (vM.go H4 K);have P:=O (b2.below K);have M:=O (S.below (K.mono (by omega)));have b8:=O (sV b3 K);clear K;by_cases b1:ws.length=0
    .obtain rfl:ws=[]:=aX.1 b1
     refine gS 8 [(0,true),(1,true),(2,true),(3,true),(4,true),(5,true),(6,true),(7,true)] (by kernel_rfl) (by kernel_rfl) ?_
     iterate 8
      refine gU (v:=?_) ?_ ?_;rotate_left
      .intro y t
       have k1:=(t.cell (p:=J 4) a6).trans b0;have k2:=(t.cell (p:=J A) R).trans T;have k3:=a4 y (gJ (k:=1) t);go_simp;with_reducible rfl
      try simp only[V]
     refine iu rfl ?_;have C:=uJ k u;go_wp2_with fail;clear C;refine(uI u a2 w H9 ⟨rfl,ag _,fun h0=>absurd h0 (by simp)⟩ (fun s hs=>Hl s (au _ hs)) Hn hc a5 P M a7).mono ?_;rintro e w6 n;have a:=mf n a3 (by omega);clear n
     cases hh:jk r.x k []with
     |none=>
      rw[hh]at a
      obtain ⟨q,o,_⟩|⟨_,rfl⟩:=a.2.2
      .cases o
      .have b:pI (At B g) g c D r (l::[]) W iX w6:=⟨a.1,a.2.1,VS ⟨(i.1 w).trans (by rw[hh];rfl),rfl⟩⟩
       clear a hh;unfold iX at b⊢;have d:=O b;clear b;go_wp2_with fail;exact⟨rfl,d⟩
     |some y=>
      rw[hh]at a
      obtain ⟨q,o,rfl,D',h4,h5⟩|⟨o,_⟩:=id a.2.2
      .have L:kp r (l::[])=some ⟨y,(k:Int),[]⟩:=(i.1 w).trans (by rw[hh];rfl)
       have d:=O (qg (k:=k) (y:=y) a L b6);obtain⟨f',v',s',k',m',F,a0⟩:=h5;obtain⟨X,b9⟩:=F.cell 9
       change w6.cell? ⟨g,9,none⟩=some (.int .i64 r.at_)at X
       clear a L a0 F h4 hh o T d9;go_wp2;go_end0;exact d
      .cases o
    .have c5:¬ws=[]:=fun e=>b1 (by rw[e];rfl)
     have d4:(1:Int)<=(ws.length:Int)+1:=by omega
     refine gS 8 [(0,true),(1,true),(2,true),(3,true),(4,true),(5,true),(6,true),(7,true)] (by kernel_rfl) (by kernel_rfl) ?_
     iterate 8
      refine gU (v:=?_) ?_ ?_;rotate_left
      .intro y t
       have k1:=(t.cell (p:=J 4) a6).trans b0;have k2:=(t.cell (p:=J A) R).trans T;have k3:=a4 y (gJ (k:=1) t);go_simp;with_reducible rfl
      try simp only[V]
     refine iu rfl ?_;have C:=uJ k u;go_wp2_with fail;clear C;refine(uI u a2 w H9 (by have:=Ay b8;simpa using this) (fun s hs=>Hl s (au _ hs)) Hn hc a5 P M a7).mono ?_;rintro e w6 n;have a:=mf n a3 (by omega);clear n
     cases hh:jk r.x k ws with
     |none=>
      rw[hh]at a
      obtain ⟨q,o,_⟩|⟨_,rfl⟩:=a.2.2
      .cases o
      .have b:pI (At B g) g c D r (l::ws) W iX w6:=⟨a.1,a.2.1,VS ⟨(i.1 w).trans (by rw[hh];rfl),rfl⟩⟩
       clear a hh;unfold iX at b⊢;have d:=O b;clear b;go_wp2_with fail;exact⟨rfl,d⟩
     |some y=>
      rw[hh]at a
      obtain ⟨q,o,rfl,D',h4,h5⟩|⟨o,_⟩:=id a.2.2
      .have L:kp r (l::ws)=some ⟨y,(k:Int),[]⟩:=(i.1 w).trans (by rw[hh];rfl)
       have d:=O (qg (k:=k) (y:=y) a L b6);obtain⟨f',v',s',k',m',F,a0⟩:=h5;obtain⟨X,b9⟩:=F.cell 9
       change w6.cell? ⟨g,9,none⟩=some (.int .i64 r.at_)at X
       clear a L a0 F h4 hh o T d9;go_wp2;go_end0;exact d
      .cases o
   .have d2:((k:Int)==r.at_+1)=false:=by rw[ak];exact h1
    by_cases h5:5<=k
    .by_cases h4:4<=r.at_
     .by_cases h6:r.at_<=(k:Int)
      .have w:=O (show sX r k from VS ⟨h5,h4,h6⟩)
       have c0:(5:Int)<=(k:Int):=by omega
       clear h1;go_wp2_with fail;refine(kW _).mono ?_;rintro e w5 ⟨rfl,rfl⟩;go_upto_region 4 with fail;have a6:4<j.heap.size:=eb (eb (show 4<14 by decide) S.glo) (by omega);obtain⟨ob,ol,b0,c4,a9,z⟩:=S.rdr
       have a1:ob<j.heap.size:=by omega
       have a8:∀y,Below j j y->(Instr.lookup 209 (.map (some ob)) (.string (bs l)) false).run prog y=.ok (.func (.func (RB k)) #[] #[]) y:=fun y t=>by
        rw[mM underlying209 underlying9 (Tryz.zeroRdr y) (a9.block (t.block ob a1)) l false,z l];unfold Fv;rw[Hk];rfl
       have a4:=O a8;clear a9 z a8
       have R:A<j.heap.size:=by omega
       have c3:g<j.heap.size:=by omega
       have a5:B<=j.drew.heap.size:=by show B<=j.heap.size;omega
       have a7:g<=j.drew.heap.size:=by show g<=j.heap.size;omega
       have a3:=O (N.drew);have K:Below j j j.drew:=(TH _ _).drew;have a2:=O (vM.go H4 K);have P:=O (b2.below K);have M:=O (S.below (K.mono (by omega)));have b8:=O (sV b3 K);clear K;by_cases b1:ws.length=0
       .obtain rfl:ws=[]:=aX.1 b1
        refine gS 8 [(0,true),(1,true),(2,true),(3,true),(4,true),(5,true),(6,true),(7,true)] (by kernel_rfl) (by kernel_rfl) ?_
        iterate 8
         refine gU (v:=?_) ?_ ?_;rotate_left
         .intro y t
          have k1:=(t.cell (p:=J 4) a6).trans b0;have k2:=(t.cell (p:=J A) R).trans T;have k3:=a4 y (gJ (k:=1) t);go_simp;with_reducible rfl
         try simp only[V]
        refine iu rfl ?_;have C:=uJ k u;go_wp2_with fail;clear C;refine(uI u a2 w H9 ⟨rfl,ag _,fun h0=>absurd h0 (by simp)⟩ (fun s hs=>Hl s (au _ hs)) Hn hc a5 P M a7).mono ?_;rintro e w6 n;have a:=mf n a3 (by omega);clear n
        cases hh:jk r.x k []with
        |none=>
         rw[hh]at a
         obtain ⟨q,o,_⟩|⟨_,rfl⟩:=a.2.2
         .cases o
         .have b:pI (At B g) g c D r (l::[]) W iX w6:=⟨a.1,a.2.1,VS ⟨(i.1 w).trans (by rw[hh];rfl),rfl⟩⟩
          clear a hh;unfold iX at b⊢;have d:=O b;clear b;go_wp2_with fail;exact⟨rfl,d⟩
        |some y=>
         rw[hh]at a
         obtain ⟨q,o,rfl,D',h4,h5⟩|⟨o,_⟩:=id a.2.2
         .have L:kp r (l::[])=some ⟨y,(k:Int),[]⟩:=(i.1 w).trans (by rw[hh];rfl)
          have d:=O (qg (k:=k) (y:=y) a L b6);obtain⟨f',v',s',k',m',F,a0⟩:=h5;obtain⟨X,b9⟩:=F.cell 9
          change w6.cell? ⟨g,9,none⟩=some (.int .i64 r.at_)at X
          clear a L a0 F h4 hh o T d9;go_wp2;go_end0;exact d
         .cases o
       .have c5:¬ws=[]:=fun e=>b1 (by rw[e];rfl)
        have d4:(1:Int)<=(ws.length:Int)+1:=by omega
        refine gS 8 [(0,true),(1,true),(2,true),(3,true),(4,true),(5,true),(6,true),(7,true)] (by kernel_rfl) (by kernel_rfl) ?_
        iterate 8
         refine gU (v:=?_) ?_ ?_;rotate_left
         .intro y t
          have k1:=(t.cell (p:=J 4) a6).trans b0;have k2:=(t.cell (p:=J A) R).trans T;have k3:=a4 y (gJ (k:=1) t);go_simp;with_reducible rfl
         try simp only[V]
        refine iu rfl ?_;have C:=uJ k u;go_wp2_with fail;clear C;refine(uI u a2 w H9 (by have:=Ay b8;simpa using this) (fun s hs=>Hl s (au _ hs)) Hn hc a5 P M a7).mono ?_;rintro e w6 n;have a:=mf n a3 (by omega);clear n
        cases hh:jk r.x k ws with
        |none=>
         rw[hh]at a
         obtain ⟨q,o,_⟩|⟨_,rfl⟩:=a.2.2
         .cases o
         .have b:pI (At B g) g c D r (l::ws) W iX w6:=⟨a.1,a.2.1,VS ⟨(i.1 w).trans (by rw[hh];rfl),rfl⟩⟩
          clear a hh;unfold iX at b⊢;have d:=O b;clear b;go_wp2_with fail;exact⟨rfl,d⟩
        |some y=>
         rw[hh]at a
         obtain ⟨q,o,rfl,D',h4,h5⟩|⟨o,_⟩:=id a.2.2
         .have L:kp r (l::ws)=some ⟨y,(k:Int),[]⟩:=(i.1 w).trans (by rw[hh];rfl)
          have d:=O (qg (k:=k) (y:=y) a L b6);obtain⟨f',v',s',k',m',F,a0⟩:=h5;obtain⟨X,b9⟩:=F.cell 9
          change w6.cell? ⟨g,9,none⟩=some (.int .i64 r.at_)at X
          clear a L a0 F h4 hh o T d9;go_wp2;go_end0;exact d
         .cases o
      .have c0:(5:Int)<=(k:Int):=by omega
       have hb:pI (At B g) g c D r (l::ws) W iX j:=lT (i.2 (by unfold sX;omega)) N (by omega);clear i;unfold iX at hb;have E:=O hb;clear hb;have H1:=O h1;clear h1;go_wp2_with fail;refine(lm _).mono ?_;rintro e w5 ⟨rfl,rfl⟩;unfold iX;go_wp2_with fail;exact⟨rfl,E⟩
     .have c0:(5:Int)<=(k:Int):=by omega
      have hb:pI (At B g) g c D r (l::ws) W iX j:=lT (i.2 (by unfold sX;omega)) N (by omega);clear i;unfold iX at hb;have E:=O hb;clear hb;have H1:=O h1;clear h1;go_wp2_with fail;refine(lm _).mono ?_;rintro e w5 ⟨rfl,rfl⟩;unfold iX;go_wp2_with fail;exact⟨rfl,E⟩
    .have c0:¬(5:Int)<=(k:Int):=by omega
     have hb:pI (At B g) g c D r (l::ws) W iX j:=lT (i.2 (by unfold sX;omega)) N (by omega);clear i;unfold iX at hb;have E:=O hb;clear hb;have H1:=O h1;clear h1;go_wp2_with fail;refine(lm _).mono ?_;rintro e w5 ⟨rfl,rfl⟩;unfold iX;go_wp2_with fail;exact⟨rfl,E⟩
  |none=>
   unfold Lj;by_cases h7:r.at_=7
   .have Hr:=O (IL (ws:=ws) h7 hk)
    have Hk:=O hk;clear hk;have H7:=O h7;rw[h7]at d9;clear h7;go_wp2_with fail;have hp:=H4.out;unfold At at hp;refine(L6 (ws:=ws) (by rw[<- H7];exact hp) H7 b3 Hl Hn hc (by omega) b2 S (by omega)).mono ?_;rintro e w5 n;have a:=mf n N (by omega);have b:pI (At B g) g c D r (l::ws) W e w5:=Az (by rw[H7,Hr];exact a) (fun q hq=>by rw[Hr]at hq;rw[H7];exact Og hq);have he:=AA n;clear n a hp
    obtain rfl|rfl:=he
    .have d:=O b;clear b
     go_wp2;go_end0;exact d
    .unfold iX at b⊢
     have d:=O b;clear b;go_wp2_with fail;exact⟨rfl,d⟩
   .have c7:(r.at_==7)=false:=by rw[ak];exact h7
    by_cases h8:r.at_=8
    .by_cases b5:l=lj
     .subst b5
      have Hr:=O (DR (ws:=ws) h8);have Hk:=O hk;clear hk h7 c7;have H8:=O h8;rw[h8]at d9;clear h8
      have d3:(bs lj==({data:=#[99,104,97,110,103,101]}:ByteArray))=true:=by decide
      go_wp2_with fail;have hp:=H4.out;unfold At at hp;refine(FT (ws:=ws) (by rw[<- H8];exact hp) H8 b3 Hl Hn hc (by omega) b2 S (by omega)).mono ?_;rintro e w5 n;have a:=mf n N (by omega);have b:pI (At B g) g c D r (lj::ws) W e w5:=Az (by rw[H8,Hr];exact a) (fun q hq=>by rw[Hr]at hq;rw[H8];exact IM hq);have he:=AA n;clear n a hp
      obtain rfl|rfl:=he
      .have d:=O b;clear b
       go_wp2;go_end0;exact d
      .unfold iX at b⊢
       have d:=O b;clear b;go_wp2_with fail;exact⟨rfl,d⟩
     .have hb:pI (At B g) g c D r (l::ws) W iX j:=lT (yt H9 h7 (fun h=>b5 h.2) hk) N (by omega)
      have d3:(l==[99,104,97,110,103,101])=false:=by rw[ak];exact b5
      rw[h8]at d9;clear hk h7 c7 h8 b5;unfold iX at hb;have E:=O hb;clear hb;go_wp2_with fail;refine(lm _).mono ?_;rintro e w5 ⟨rfl,rfl⟩;unfold iX;go_wp2_with fail;exact⟨rfl,E⟩
    .have hb:pI (At B g) g c D r (l::ws) W iX j:=lT (yt H9 h7 (fun h=>h8 h.1) hk) N (by omega)
     have e0:(r.at_==8)=false:=by rw[ak];exact h8
     clear hk h7 h8;unfold iX at hb;have E:=O hb;clear hb;go_wp2_with fail;refine(lm _).mono ?_;rintro e w5 ⟨rfl,rfl⟩;unfold iX;go_wp2_with fail;exact⟨rfl,E⟩
def RF(B g:Nat):vD B g (At B g) where
 lens:=by
  rintro c D r W ⟨f,v,s,k,m,e,d⟩;exact⟨f,v,s,k,m,e,d.lensAt⟩
 own:=by
  rintro c D r W b ⟨f,v,s,k,m,e,d⟩ hb;exact d.own b hb
 kept:=by
  intro c D r W W' h o t;exact vM.keep h o t
 read:=by
  intro c D r W ws A h hw a p q l i n j
  match ws,a with
  |[],a=>exact absurd rfl a
  |fw::ws,_=>exact L9 h hw p (by rw[aH]at q;omega) l i n j
def vE(t:List UInt8)(w:World)(c:GW w)(b:TW w w)(a:jY w w)(d:t.length<=100000):Calls prog 46 #[.string (bs t)] w (ye w (nr t)):=
 LH (Rd:=At (w+8) (w+3)) t w (RF _ _) (fun W h=>NX (by omega) h) c b a d
def DQ(x:gR):List UInt8:=if x.i9=0 then lQ else iz x.i9 6
def G(x:gR):Nat->List UInt8
 |0=>iF [xZ,VX x.nm]
 |1=>iF [sO,DQ x]
 |2=>iF [vA,iz x.pb 6]
 |3=>iF [Aa,iz x.stop 0]
 |4=>iF [qJ,iz x.p9 0]
 |5=>((List.range (x.fs.length/2)).map (nE x.fs)).flatten
 |6=>((List.range (x.ws.length/2)).map (qK x.ws)).flatten
 |7=>(x.l.map oq).flatten
 |8=>(x.cf.map ot).flatten
 |_=>iF [Fp]
def Yw(x:gR):Nat->List UInt8
 |0=>[]
 |k+1=>Yw x k++G x k
def Yn(x:gR):nO x=Yw x 10:=rfl
def Yq(x:gR)(k:Nat):∀n,(Yw x k).length<=(Yw x (k+n)).length
 |0=>ag _
 |n+1=>af (Yq x k n) (by rw[<- cN,Yw,al];omega)
def Yj(x:gR)(k:Nat)(a:k+1<=10){t p:List UInt8}(e:G x k=t)(h:Yt p t)(b:∀k,k<=10->(Yw x k).length<=1000000):(Yw x k++p).length<=1000000:=by
 subst e;exact Yi h (b (k+1) a)
def Yk{p q:List UInt8}{m:Nat}(h:(p++q).length<=m):p.length<=m:=by rw[al]at h;omega
structure yQ (B:Nat) (x:gR) (f v s k:iJ) (l:List UInt8) (w W:World):Prop where
 l9:kr W w 37 x f v s k
 b:Lib.IsBuilder 73 5 B B (Lib.byteCells l) W
 be:Below w w W
 lo:w.heap.size<B
 hi:B<W.heap.size
def yQ.next{B:Nat}{x:gR}{f v s k:iJ}{l l':List UInt8}{w W d e:World}(h:yQ B x f v s k l w W)(a:Below W W d)(h2:L7 B B l' d (.returned (.tuple #[])) e):yQ B x f v s k l' w e:=by
 obtain⟨_,h3,c,_⟩:=h2;have j:=a.size;have i:=c.size;have b:=h.lo;have g:=h.hi;exact⟨(c.block _ b).trans ((a.block _ h.l9.lt).trans h.l9),h3,(h.be.trans (a.mono (by omega))).trans (c.mono (by omega)),b,by omega⟩
def yQ.go{B:Nat}{x:gR}{f v s k:iJ}{l:List UInt8}{w W c:World}(h:yQ B x f v s k l w W)(a:Below W W c):yQ B x f v s k l w c:=by
 have g:=a.size;have e:=h.hi;have d:=h.lo;exact⟨(a.block _ h.l9.lt).trans h.l9,iq h.b a,h.be.trans (a.mono (by omega)),d,by omega⟩
def yQ.line{B:Nat}{x:gR}{f v s k:iJ}{l:List UInt8}{w W a:World}(h:yQ B x f v s k l w W)(c:Below W W a)(ws:List (List UInt8)){g n:Nat}(hw:a.heap[g]? =some (.cells (ji ws).toArray 9 (0,0)))(i:(l++iF ws).length<=1000000)(j:ws.length=n:=by rfl)(h9:n<=9:=by decide):
 Calls prog 15 #[U B,Z (J g) n n] a fun e d=>e=.returned (.tuple #[])/\yQ B x f v s k (l++iF ws) w d/\kY B a d:=by
 subst j;have h1:=c.size;have h2:=h.hi;rw[al]at i;refine(kL ws g ws.length B B l a hw (ag _) (by omega) i (iq h.b c) (by omega)).mono ?_;rintro e d h3;obtain rfl:=jz h3;exact⟨rfl,h.next c h3,h3.2.2.2⟩
def CA{α:Type}(f:α->List UInt8)(l:List α){k:Nat}{y:α}(h:l[k]? =some y):((l.take (k+1)).map f).flatten=((l.take k).map f).flatten++f y:=by
 rw[mn h,aT,cG];simp
def wI(x:gR):Value:=.tuple #[.string (bs (if iI x=true then nO x else[])),.int .i64 (if iI x=true then 0 else 120)]
def CB(x:gR)(f v s k:iJ)(w:World)(hx:iP (fun b=>b<w.heap.size) w x f v s k)(hg:GW w)(hP:jY w w)(hT:TW w w)(t:iI x=true->(nO x).length<=1000000):
 Calls prog 6 #[jG x f v s k] w (iZ w (wI x)):=by
 have X:=O ((TH w w).alloc (ag _) (.cells (iw x f v s k).toArray 37));have c8:=O (show kr (w.alloc (.cells (iw x f v s k).toArray 37)) w 37 x f v s k from TL w _);have M:=O hx;have Hg:=O hg;have HP:=O hP;have HT:=O hT;have c7:=O t;clear hx hg hP hT t;unfold jG;go_enter func6,ntmps6;go_upto_region 1 with fail;refine gI (fun wx=>kr wx w 37 x f v s k/\Below w w wx) ⟨c8,X⟩ ?_;clear c8 X;rintro w1 ⟨h9,f7⟩;have H9:=O h9;have b6:=O f7;have j1:=h9.lt;clear h9 f7;have e7:=YN x f v s k w1 (M.go b6) ((HP.below b6).mono b6.size);unfold jG at e7;have e3:=O e7;clear e7
 cases hv:iI x with
 |false=>
  have hr:wI x=.tuple #[.string {data:=#[]},.int .i64 120]:=by unfold wI;rw[hv];rfl
  have he:err (iI x) 120=.int .i64 120:=by rw[hv];rfl
  have Hr:=O hr;have He:=O he;clear hr he hv
  go_wp2_with(first
   |(refine it H9 rfl (.tmp 1) rfl rfl ?_)
   |(refine e3.mono ?_;rintro e u ⟨rfl,c5⟩;rw[He];have b7:=O c5;clear c5))
  go_ret2;exact⟨by rw[Hr];rfl,I b6 b7⟩
 |true=>
  have hr:wI x=.tuple #[.string (bs (Yw x 10)),oZ]:=by unfold wI;rw[hv];rfl
  have he:err (iI x) 120=.int .i64 0:=by rw[hv];rfl
  have d5:=uH hv
  have g8:∀k,k<=10->(Yw x k).length<=1000000:=fun k hk=>by
   have h1:=Yq x k (10-k);have h2:=c7 hv;rw[Yn]at h2;rw[show k+(10-k)=10 by omega]at h1;omega
  have Hr:=O hr;have He:=O he;have A:=O d5;have a0:=O g8;clear hr he d5 g8 hv c7
  go_upto_region 4 with(first
   |(refine it H9 rfl (.tmp 1) rfl rfl ?_)
   |(refine e3.mono ?_;rintro e u ⟨rfl,c5⟩;rw[He];have b7:=O c5;clear c5))
  have hw:yQ u x f v s k [] w (u.alloc (.cells #[.pointer none,oN] 73)):=by
   have f4:=I b6 b7;have hs:=b7.size;refine⟨((TH u u).alloc (ag _) _|>.block _ (by omega)).trans ((b7.block _ j1).trans H9),VR ⟨ag _,oN,TL u _,World.ownsRow_nil _ _ _ _,by intro e;cases e⟩,gY f4,by omega,by simp⟩
  have Hw:=O hw;clear hw;go_upto_region 5 with fail;refine gI (fun wx=>yQ u x f v s k [] w wx) Hw ?_;clear Hw H9 b7 b6 e3 HP He;rintro w3 r;have e4:Hid (yQ u x f v s k (Yw x 0) w w3):=O r;clear r
  have cc:w3.cell? (J (w.heap.size))=some (.string (bs (VX x.nm))):=by rw[qO];exact VV e4.l9 0
  go_wp2_with fail;clear cc;refine(e4.line ((TH _ _).alloc (ag _) _) [xZ,VX x.nm] (TL _ _) (a0 1 (by decide))).mono ?_;rintro _ w4 ⟨rfl,r,-⟩;have a1:Hid (yQ u x f v s k (Yw x 1) w w4):=O r;clear r e4;have cc:w4.cell? ⟨w.heap.size,1,none⟩=some (.int .i64 x.i9):=VV a1.l9 1;have K:=A.i9
  go_upto_if 32 with fail
  go_cut [6] (fun v6 wx=>v6=.string (bs (DQ x))/\yQ u x f v s k (Yw x 1) w wx)
  case first=>
   by_cases d3:x.i9=0
   .have ho:DQ x=lQ:=by unfold DQ;rw[aq d3]
    have j0:¬(0:Int) <x.i9:=by omega
    have Ho:=O ho;clear ho d3;go_wp2;go_meet;exact⟨by rw[Ho];rfl,a1⟩
   .have ho:DQ x=iz x.i9 6:=by unfold DQ;rw[aj d3]
    have j0:(0:Int) <x.i9:=by omega
    have Ho:=O ho;clear ho d3
    go_wp2_with(refine(js x.i9 6 w4 (by omega) (by omega) (by omega) (Hg.of a1.be HT.glo)).mono ?_;rintro ee wa ⟨rfl,g⟩;have D:=O g;clear g)
    go_meet;exact⟨by rw[Ho],a1.go D⟩
  case rest=>
   obtain⟨rfl,r⟩:=hcut;have b8:=O r;clear r cc K a1;go_wp2_with fail;refine(b8.line ((TH _ _).alloc (ag _) _) [sO,DQ x] (TL _ _) (a0 2 (by decide))).mono ?_;rintro _ w5 ⟨rfl,r,-⟩;have b1:Hid (yQ u x f v s k (Yw x 2) w w5):=O r;clear r b8;have cc:w5.cell? ⟨w.heap.size,2,none⟩=some (.int .i64 x.pb):=VV b1.l9 2;have K:=A.pb
   go_wp2_with(refine(js x.pb 6 w5 (by omega) (by omega) (by omega) (Hg.of b1.be HT.glo)).mono ?_;rintro ee wa ⟨rfl,g⟩;have D:=O g;clear g)
   clear cc K;refine(b1.line (D.alloc D.size _) [vA,iz x.pb 6] (TL _ _) (a0 3 (by decide))).mono ?_;rintro _ w6 ⟨rfl,r,-⟩;have b2:Hid (yQ u x f v s k (Yw x 3) w w6):=O r;clear r b1;clear D;have cc:w6.cell? ⟨w.heap.size,3,none⟩=some (.int .i64 x.stop):=VV b2.l9 3;have K:=A.stop
   go_wp2_with(refine(js x.stop 0 w6 (by omega) (by omega) (by omega) (Hg.of b2.be HT.glo)).mono ?_;rintro ee wa ⟨rfl,g⟩;have D:=O g;clear g)
   clear cc K;refine(b2.line (D.alloc D.size _) [Aa,iz x.stop 0] (TL _ _) (a0 4 (by decide))).mono ?_;rintro _ w7 ⟨rfl,r,-⟩;have b4:Hid (yQ u x f v s k (Yw x 4) w w7):=O r;clear r b2;clear D;have cc:w7.cell? ⟨w.heap.size,4,none⟩=some (.int .i64 x.p9):=VV b4.l9 4;have K:=A.p9
   go_wp2_with(refine(js x.p9 0 w7 (by omega) (by omega) (by omega) (Hg.of b4.be HT.glo)).mono ?_;rintro ee wa ⟨rfl,g⟩;have D:=O g;clear g)
   clear cc K;refine(b4.line (D.alloc D.size _) [qJ,iz x.p9 0] (TL _ _) (a0 5 (by decide))).mono ?_;rintro _ w8 ⟨rfl,r,-⟩;have c9:Hid (yQ u x f v s k (Yw x 5) w w8):=O r;clear r b4;clear D;obtain⟨pa,z⟩:∃pa,f.a=pa:=⟨_,rfl⟩
   have cl:w8.cell? ⟨w.heap.size,5,none⟩=some (.slice pa f.n f.c):=by rw[<- z];exact VV c9.l9 5
   have b5:=O z;clear z
   have c6:x.fs.length/2=f.n:=by have:x.fs.length=f.n*2:=M.fs.1;omega
   have h4:f.n<=f.c:=M.fs.2.1;have h3:f.n<=1000000:=M.fn;have L:=O c6;clear c6;go_wp2
   go_loopw [8,61] (fun v8 F wr=>∃j:Nat,j<=f.n/\F=.int .i64 (j:Int)/\yQ u x f v s k (Yw x 5++((List.range j).map (nE x.fs)).flatten) w wr) (fun _ F _=>f.n-(intOf F).toNat)
   case atStart=>exact⟨0,aA _,rfl,by simpa using c9.out⟩
   case round=>
    obtain⟨j,hj,rfl,m⟩:=hrel;have q:=O m;clear m cl;by_cases a3:j<f.n
    .obtain⟨b,off,g,i8,z0,z1⟩:=((M.fs.ir (N:=w.heap.size) (fun _ h=>h)).below q.be (ag _)).at2 a3
     obtain rfl:=b5.symm.trans g;clear g;have K:=A.fs j (by have:=L.out;omega);have W:nE x.fs j=iF [vB,iz (x.fs.getD (j*2) 0) 6,iz (x.fs.getD (j*2+1) 0) 6]:=rfl;have T:=Yj x 5 (by decide) (by show(((List.range (x.fs.length/2)).map (nE x.fs)).flatten)=_;rw[L]) (Yv (nE x.fs) a3) a0;rw[W,<- aC]at T;have c3:=O W;have c1:=O T;clear W T;generalize x.fs.getD (j*2) 0=q0 at*;generalize x.fs.getD (j*2+1) 0=q1 at*;go_wp2_with fail;have a4:=TL wr (.cells #[q0,q1] 77);have X:=O (show Below wr wr (wr.alloc (.cells #[q0,q1] 77))from(TH _ _).alloc (ag _) _);have e0:=VV a4 0;have e1:=VV a4 1;have a9:=TK a4;clear a4 z0 z1;go_upto_region 16 with fail;have a8:=O (show GW wr from Hg.of q.be HT.glo);refine gS 8 [(0,true),(1,true),(2,true),(4,true),(5,true),(3,false),(6,false),(7,false)] (by kernel_rfl) (by kernel_rfl) ?_
     iterate 5
      refine gU (v:=?_) ?_ ?_;rotate_left
      .intro y E
       have k1:=(E.cell (p:=J (wr.heap.size)) a9).trans e0;have k2:=(E.cell (p:=⟨wr.heap.size,1,none⟩) a9).trans e1;go_simp;with_reducible rfl
      try simp only[V]
     clear e0 e1;refine gP (fun P o=>?_);go_simp;refine(js q0 6 _ (by omega) (by omega) (by omega) (a8.below X.drew)).mono ?_;rintro ee wa ⟨rfl,g⟩;refine o _ _ g ?_;clear o P;have Q:=X.drew.trans (g.mono X.drew.size);(try simp only[V]);refine gP (fun P o=>?_);go_simp;refine(js q1 6 wa (by omega) (by omega) (by omega) (a8.below Q)).mono ?_;rintro ee wb ⟨rfl,R⟩;refine o _ _ R ?_;clear o P;have C:=I Q R;(try simp only[V]);refine gP (fun P o=>?_);go_simp;refine o _ _ ((TH _ _).alloc (ag _) _) ?_;clear o P;(try simp only[V]);refine iu rfl ?_;have a7:=O C;clear Q C g R;go_wp2_with fail;refine(q.line (a7.alloc a7.size _) [vB,iz q0 6,iz q1 6] (TL _ _) c1).mono ?_;rintro _ w9 ⟨rfl,d,-⟩;rw[<- c3,aC,<- nA]at d;have B:=O d;clear d;go_wp2
     go_roundw
     case rel=>exact⟨j+1,by omega,by go_num,B⟩
     case measure=>simp[intOf];omega
    .obtain rfl:j=f.n:=by omega
     have m:=q.out;rw[<- L]at m;have d0:Hid (yQ u x f v s k (Yw x 6) w wr):=O m;clear m q;obtain⟨pa,z⟩:∃pa,v.a=pa:=⟨_,rfl⟩
     have cl:wr.cell? ⟨w.heap.size,6,none⟩=some (.slice pa v.n v.c):=by rw[<- z];exact VV d0.l9 6
     have b5:=O z;clear z
     have c6:x.ws.length/2=v.n:=by have:x.ws.length=v.n*2:=M.ws.1;omega
     have h4:v.n<=v.c:=M.ws.2.1;have h3:v.n<=1000000:=M.wn;have L:=O c6;clear c6;go_wp2
     go_loopw [10,78] (fun v8 F wr=>∃j:Nat,j<=v.n/\F=.int .i64 (j:Int)/\yQ u x f v s k (Yw x 6++((List.range j).map (qK x.ws)).flatten) w wr) (fun _ F _=>v.n-(intOf F).toNat)
     case atStart=>exact⟨0,aA _,rfl,by simpa using d0.out⟩
     case round=>
      obtain⟨j,hj,rfl,m⟩:=hrel;have q:=O m;clear m cl;by_cases a3:j<v.n
      .obtain⟨b,off,g,i8,z0,z1⟩:=((M.ws.ir (N:=w.heap.size) (fun _ h=>h)).below q.be (ag _)).at2 a3
       obtain rfl:=b5.symm.trans g;clear g;have K:=A.ws j (by have:=L.out;omega);have W:qK x.ws j=iF [Ab,iz (x.ws.getD (j*2) 0) 3,iz (x.ws.getD (j*2+1) 0) 0]:=rfl;have T:=Yj x 6 (by decide) (by show(((List.range (x.ws.length/2)).map (qK x.ws)).flatten)=_;rw[L]) (Yv (qK x.ws) a3) a0;rw[W,<- aC]at T;have c3:=O W;have c1:=O T;clear W T;generalize x.ws.getD (j*2) 0=q0 at*;generalize x.ws.getD (j*2+1) 0=q1 at*;go_wp2_with fail;have a4:=TL wr (.cells #[q0,q1] 79);have X:=O (show Below wr wr (wr.alloc (.cells #[q0,q1] 79))from(TH _ _).alloc (ag _) _);have e0:=VV a4 0;have e1:=VV a4 1;have a9:=TK a4;clear a4 z0 z1;go_upto_region 21 with fail;have a8:=O (show GW wr from Hg.of q.be HT.glo);refine gS 8 [(0,true),(1,true),(2,true),(4,true),(5,true),(3,false),(6,false),(7,false)] (by kernel_rfl) (by kernel_rfl) ?_
       iterate 5
        refine gU (v:=?_) ?_ ?_;rotate_left
        .intro y E
         have k1:=(E.cell (p:=J (wr.heap.size)) a9).trans e0;have k2:=(E.cell (p:=⟨wr.heap.size,1,none⟩) a9).trans e1;go_simp;with_reducible rfl
        try simp only[V]
       clear e0 e1;refine gP (fun P o=>?_);go_simp;refine(js q0 3 _ (by omega) (by omega) (by omega) (a8.below X.drew)).mono ?_;rintro ee wa ⟨rfl,g⟩;refine o _ _ g ?_;clear o P;have Q:=X.drew.trans (g.mono X.drew.size);(try simp only[V]);refine gP (fun P o=>?_);go_simp;refine(js q1 0 wa (by omega) (by omega) (by omega) (a8.below Q)).mono ?_;rintro ee wb ⟨rfl,R⟩;refine o _ _ R ?_;clear o P;have C:=I Q R;(try simp only[V]);refine gP (fun P o=>?_);go_simp;refine o _ _ ((TH _ _).alloc (ag _) _) ?_;clear o P;(try simp only[V]);refine iu rfl ?_;have a7:=O C;clear Q C g R;go_wp2_with fail;refine(q.line (a7.alloc a7.size _) [Ab,iz q0 3,iz q1 0] (TL _ _) c1).mono ?_;rintro _ w9 ⟨rfl,d,-⟩;rw[<- c3,aC,<- nA]at d;have B:=O d;clear d;go_wp2
       go_roundw
       case rel=>exact⟨j+1,by omega,by go_num,B⟩
       case measure=>simp[intOf];omega
      .obtain rfl:j=v.n:=by omega
       have m:=q.out;rw[<- L]at m;have d1:Hid (yQ u x f v s k (Yw x 7) w wr):=O m;clear m q;obtain⟨pa,z⟩:∃pa,s.a=pa:=⟨_,rfl⟩
       have cl:wr.cell? ⟨w.heap.size,7,none⟩=some (.slice pa s.n s.c):=by rw[<- z];exact VV d1.l9 7
       have b5:=O z;clear z;have L:=O (show x.l.length=s.n from M.l.1);have h4:s.n<=s.c:=M.l.2.1;have h3:s.n<=1000000:=M.sn;go_wp2
       go_loopw [12,95] (fun v8 F wr=>∃j:Nat,j<=s.n/\F=.int .i64 (j:Int)/\yQ u x f v s k (Yw x 7++((x.l.take j).map oq).flatten) w wr) (fun _ F _=>s.n-(intOf F).toNat)
       case atStart=>exact⟨0,aA _,rfl,by simpa using d1.out⟩
       case round=>
        obtain⟨j,hj,rfl,m⟩:=hrel;have q:=O m;clear m cl;by_cases a3:j<s.n
        .obtain⟨b,off,y,cs,i0,hlt,E,⟨a2,H,c2,rfl,hz,g9,e6,f0⟩,hr⟩:=M.l.at a3
         obtain rfl:=b5.symm.trans i0;clear i0;have Hr:=O (jb (S:=fun b=>b<w.heap.size) hr (gE q.be) hlt);have i5:=O (A.l y (aL E));have t:=Yj x 7 (by decide) rfl (Yf oq x.l E) a0;rw[<- aC,al]at t;have Hy:=O E;have Hz:=O (hz.ir (N:=w.heap.size) (fun _ h=>h));have a5:=O t;clear hr E hz t e6 f0
         go_wp2_with(first
          |(refine lw Hr rfl (.tmp 97) rfl rfl ?_)
          |(refine lC y.s a2 H c2 _ rfl rfl (.tmp 12) (.tmp 98) rfl rfl rfl ?_)
          |(refine gO (Y.new _ y.s a2 H c2) rfl (.tmp 12) rfl rfl ?_))
         have e5:Below wr wr (wr.alloc (.cells (⟨y.s,a2,H,c2⟩:jt) 58)):=(TH _ _).alloc (ag _) _;have b0:=q.go e5;refine(DP y a2 H c2 u u w (Yw x 7++((x.l.take j).map oq).flatten) _ i5 ((Hz.below b0.be (ag _)).mono (cE b0.lo)) g9 b0.b (cE b0.hi) a5 (Hg.of b0.be HT.glo) (HT.below b0.be) (cE b0.lo)).mono ?_;rintro ee w9 h2;obtain rfl:=jz h2;have d:=q.next e5 h2;rw[aC,<- CA oq x.l Hy]at d;have B:=O d;clear d h2 b0 e5;go_wp2
         go_roundw
         case rel=>exact⟨j+1,by omega,by go_num,B⟩
         case measure=>simp[intOf];omega
        .obtain rfl:j=s.n:=by omega
         have m:=q.out;rw[aM (by rw[L];exact ag _)]at m;have d2:Hid (yQ u x f v s k (Yw x 8) w wr):=O m;clear m q;obtain⟨pa,z⟩:∃pa,k.a=pa:=⟨_,rfl⟩
         have cl:wr.cell? ⟨w.heap.size,8,none⟩=some (.slice pa k.n k.c):=by rw[<- z];exact VV d2.l9 8
         have b5:=O z;clear z;have L:=O (show x.cf.length=k.n from M.cf.1);have j5:k.n<=k.c:=M.cf.2.1;have k5:k.n<=1000000:=M.kn;go_wp2
         go_loopw [14,16,17,106] (fun v8 j2 j3 F wr=>∃j:Nat,j<=k.n/\F=.int .i64 (j:Int)/\yQ u x f v s k (Yw x 8++((x.cf.take j).map ot).flatten) w wr) (fun _ _ _ F _=>k.n-(intOf F).toNat)
         case atStart=>exact⟨0,aA _,rfl,by simpa using d2.out⟩
         case round=>
          obtain⟨j,hj,rfl,m⟩:=hrel;have q:=O m;clear m cl;by_cases a3:j<k.n
          .obtain⟨b,off,y,cs,g5,hlt,E,⟨a2,H,c2,rfl,hz,g9,e6,f0⟩,hr⟩:=M.cf.at a3
           obtain rfl:=b5.symm.trans g5;clear g5
           have r0:wr.cell? ⟨b,off+j*2,none⟩=some (.string (bs (VX y.nm))):=by rw[qO];exact(q.be.cell (p:=⟨b,off+j*2,none⟩) hlt).trans (hr 0 _ rfl)
           have r1:wr.cell? ⟨b,off+j*2+1,none⟩=some (.slice a2 H c2):=(q.be.cell (p:=⟨b,off+j*2+1,none⟩) hlt).trans (hr 1 _ rfl)
           have e8:y.zs.length/3=H:=by have h1:y.zs.length=H*3:=hz.1;omega
           have j6:H<=c2:=hz.2.1;have K:=A.cf y (aL E)
           have e9:ot y=iF [mc,VX y.nm]++((List.range H).map (mK y.zs)).flatten:=by rw[<- e8];rfl
           have t:=Yj x 8 (by decide) rfl (Yf ot x.cf E) a0;rw[e9]at t;simp only[<- aC]at t;have f2:=O (Yk t);have i4:=O e9;have Hy:=O E;have Hz:=O (hz.ir (N:=w.heap.size) (fun _ h=>h));have a5:=O t;have i6:=O K;have i3:=O e8;clear hr E hz t e6 f0 e9 K e8;generalize VX y.nm=nmL at*;go_wp2_with fail;have h6:=TL wr (.cells #[.string (bs nmL),Z a2 H c2] 67);have h7:((wr.alloc (.cells #[.string (bs nmL),Z a2 H c2] 67)).alloc (.cells (ji [mc,nmL]).toArray 9)).heap[wr.heap.size]? =some (.cells #[.string (bs nmL),Z a2 H c2] 67 (0,0)):=(iC (by simp)).trans h6;refine(q.line (((TH _ _).alloc (ag _) _).alloc (by simp) _) [mc,nmL] (ku (by simp)) f2).mono ?_;rintro _ w9 ⟨rfl,d,g6⟩;have k0:=q.hi;have h8:w9.heap[wr.heap.size]? =some (.cells #[.string (bs nmL),Z a2 H c2] 67 (0,0)):=g6 _ _ _ _ h7 (by decide) (by omega);have q1:w9.cell? ⟨wr.heap.size,1,none⟩=some (.slice a2 H c2):=VV h8 1;have i7:=O d;clear d g6 h6 h7 h8 r0 r1;go_wp2
           go_loopw [16,17,118] (fun j2 j3 F wi=>∃i:Nat,i<=H/\F=.int .i64 (i:Int)/\yQ u x f v s k (Yw x 8++((x.cf.take j).map ot).flatten++iF [mc,nmL]++((List.range i).map (mK y.zs)).flatten) w wi) (fun _ _ F _=>H-(intOf F).toNat)
           case atStart=>exact⟨0,aA _,rfl,by simpa using i7.out⟩
           case round=>
            obtain⟨i,hi,rfl,i1⟩:=hrel;have c4:=O i1;clear i1 q1;by_cases g4:i<H
            .obtain⟨b3,j9,f5,j4,z0,z1,z2⟩:=(Hz.below c4.be (ag _)).at3 g4
             subst f5;obtain⟨g0,g1,g2⟩:=i6 i (by have:=i3.out;omega);obtain⟨pi,f1⟩:∃pi:Nat,y.zs.getD (i*3+1) 0=(pi:Int)+1:=⟨(y.zs.getD (i*3+1) 0-1).toNat,by omega⟩
             have d7:pi<17:=by omega
             have W:mK y.zs i=iF [lj,iz (y.zs.getD (i*3) 0) 0,kO.getD pi [],iz (y.zs.getD (i*3+2) 0) (oo (pi+1))]:=by
              unfold mK km;rw[f1,show((pi:Int)+1).toNat=pi+1 by omega,cY]
             have T:=Yi (Yv (mK y.zs) g4) a5;rw[W,<- aC]at T;rw[f1]at z1;have d4:=(HT.below (c4.go ((TH wr wr).alloc (ag _) (.cells #[.int .i64 (y.zs.getD (i*3) 0),.int .i64 ((pi:Int)+1),.int .i64 (y.zs.getD (i*3+2) 0)] 64))).be).par pi d7;have f6:=yP (pi+1)
             have j7:(pi:Int) <17:=by omega
             have j8:(0:Int)<=(pi:Int):=by omega
             have c3:=O W;have c1:=O T;have f3:=O d4;clear W T d4 f1 g1;generalize y.zs.getD (i*3) 0=q0 at*;generalize y.zs.getD (i*3+2) 0=q2 at*;generalize kO.getD pi []=nmP at*;generalize oo (pi+1)=dg at*
             go_wp2_with(first
              |(refine qe (.tmp 125) rfl rfl rfl f3 ?_)
              |(refine mp (ku (by simp)) rfl rfl (.tmp 17) (.tmp 126) rfl rfl rfl ?_;intro w5 f8 c0;have g3:w5.heap[wr.heap.size]? =some (.cells #[q0,.int .i64 ((pi:Int)+1),q2] 64 (0,0)):=((c0 (wr+1) _ (ag _) ((TH _ _).alloc (by simp) _)).block _ (by omega)).trans (TL wr _);have b9:=O (c0 wr wr (by omega) (((TH _ _).alloc (ag _) _).alloc (by simp) _));have d8:=O f8;have d9:=O g3;clear f8 c0 g3))
             clear z0 z1 z2;have e0:=VV d9 0;have e2:=VV d9 2;have p0:=VV d8 0;have p1:=VV d8 1;have g7:=TK d9;have a9:=TK d8
             change w5.cell? (J (wr.heap.size))=some (.int .i64 q0)at e0
             change w5.cell? ⟨wr.heap.size,2,none⟩=some (.int .i64 q2)at e2
             change w5.cell? (J (wr+1))=some (.string (bs nmP))at p0
             change w5.cell? ⟨wr.heap.size+1,1,none⟩=some (.int .i64 (dg:Int))at p1
             go_upto_region 36 with fail;have a8:=O (show GW wr from Hg.of c4.be HT.glo);refine gS 12 [(0,true),(1,true),(2,true),(4,true),(5,true),(6,true),(7,true),(8,true),(9,true),(3,false),(10,false),(11,false)] (by kernel_rfl) (by kernel_rfl) ?_
             iterate 9
              refine gU (v:=?_) ?_ ?_;rotate_left
              .intro y E
               have k1:=(E.cell (p:=J (wr.heap.size)) g7).trans e0;have k2:=(E.cell (p:=⟨wr.heap.size,2,none⟩) g7).trans e2;have k3:=(E.cell (p:=J (wr+1)) a9).trans p0;have k4:=(E.cell (p:=⟨wr.heap.size+1,1,none⟩) a9).trans p1;go_simp;with_reducible rfl
              try simp only[V]
             clear e0 e2 p0 p1;refine gP (fun P o=>?_);go_simp;refine(js q0 0 _ (by omega) (by omega) (by omega) (a8.below b9.drew)).mono ?_;rintro ee wa ⟨rfl,g⟩;refine o _ _ g ?_;clear o P;have Q:=b9.drew.trans (g.mono b9.drew.size);(try simp only[V]);refine gP (fun P o=>?_);go_simp;refine(js q2 dg wa (by omega) (by omega) f6 (a8.below Q)).mono ?_;rintro ee wb ⟨rfl,R⟩;refine o _ _ R ?_;clear o P;have C:=I Q R;(try simp only[V]);refine gP (fun P o=>?_);go_simp;refine o _ _ ((TH _ _).alloc (ag _) _) ?_;clear o P;(try simp only[V]);refine iu rfl ?_;have a7:=O C;clear Q C g R;go_wp2_with fail;refine(c4.line (a7.alloc a7.size _) [lj,iz q0 0,nmP,iz q2 dg] (TL _ _) c1).mono ?_;rintro _ k6 ⟨rfl,d,-⟩;rw[<- c3,aC,<- nA]at d;have d6:=O d;clear d;go_wp2
             go_roundw
             case rel=>exact⟨i+1,by omega,by go_num,d6⟩
             case measure=>simp[intOf];omega
            .obtain rfl:i=H:=by omega
             go_wp2
             go_roundw
             case rel=>
              refine⟨j+1,by omega,by go_num,?_⟩;have h5:=c4.out;rw[aC,aC,<- i4,<- aC]at h5;rw[CA ot x.cf Hy,<- aC];exact h5
             case measure=>simp[intOf];omega
          .obtain rfl:j=k.n:=by omega
           have m:=q.out;rw[aM (by rw[L];exact ag _)]at m;have B:Hid (yQ u x f v s k (Yw x 9) w wr):=O m;clear m q;go_wp2_with fail;refine(B.line ((TH _ _).alloc (ag _) _) [Fp] (TL _ _) (a0 10 (by decide))).mono ?_;rintro _ w9 ⟨rfl,r,-⟩;have a6:Hid (yQ u x f v s k (Yw x 10) w w9):=O r;clear r B
           go_wp2_with(refine(FJ u u (Yw x 10) _ a6.b (fun e=>by have h0:=ai List.length e;rw[Yw,al]at h0;have h1:(G x 9).length=4:=rfl;rw[h1]at h0;simp at h0)).mono ?_;rintro ee wz ⟨rfl,f9⟩;have i2:=O f9;clear f9)
           go_ret2;exact⟨by rw[Hr];rfl,a6.be.trans (i2.mono (cE a6.lo))⟩
def ui(t:Int):gM:=⟨⟨1,0,0,0,0,0,0,0,0,0,0,0,t,⟨#[]⟩,0,0,0,0,0,0,0⟩,[]⟩
def tq:gR:=⟨⟨#[70]⟩,0,10000000,0,0,[0,0,0,750000],[550000,1],[ui 10000000,ui 0],[]⟩
def jq:List (List UInt8):=[[108,101,110,115,32,70],[111,98,106,101,99,116,32,105,110,102,105,110,105,116,121],[112,117,112,105,108,32,49,48],[115,116,111,112,32,48],[112,114,105,109,97,114,121,32,48],[102,105,101,108,100,32,48,32,48],[102,105,101,108,100,32,48,32,48,46,55,53],[119,97,118,101,32,53,53,48,32,49],[115,117,114,102,97,99,101,32,115,116,97,110,100,97,114,100],[116,104,105,99,107,32,49,48],[115,117,114,102,97,99,101,32,115,116,97,110,100,97,114,100],[101,110,100]]
def rm(ss:List (List UInt8)):List UInt8:=(ss.map (· ++[10])).flatten
def wJ(i:Nat)(ws:List (List UInt8)):List UInt8:=rm (jq.take i++ws++jq.drop (i+1))
def IN:iI tq=true:=by kernel_rfl
def CC:nO tq=rm jq:=by kernel_rfl
def Ma:nr (rm jq)=⟨tq,0,0⟩:=by kernel_rfl
def wK:gR:={tq with l:=[{ui 10000000 with s:={(ui 10000000).s with r9:=10000000}},ui 0]}
def pU(t:List UInt8)(line:Int)(e:Int):Prop:=nr t=⟨mG,line,e⟩
def Mb:nr (wJ 9 [[116,104,105,99,107,32,49,48],[99,117,114,118,32,48,46,48,49]])=⟨wK,0,0⟩:=by kernel_rfl
def SI:pU (wJ 7 [[119,97,118,101,32,53,53,48,46,48,32,49]]) 8 5:=by unfold pU;kernel_rfl
def SJ:pU (wJ 9 [[116,104,105,99,107,32,49,48],[116,104,105,99,107,32,49,48]]) 11 5:=by unfold pU;kernel_rfl
def SK:pU (wJ 11 []) 12 5:=by unfold pU;kernel_rfl
def SM:pU (wJ 3 [[115,116,111,112,32,49]]) 0 120:=by unfold pU;kernel_rfl
def SN:pU [] 1 5:=by unfold pU;kernel_rfl
structure AB (N:Nat) (w w':World):Prop where
 f:w'.heap[N+1]? =some (.cells #[oZ,oZ,oZ,.int .i64 750000] 77 (0,0))
 v:w'.heap[N+2]? =some (.cells #[.int .i64 550000,.int .i64 1] 79 (0,0))
 s:w'.heap[N+3]? =some (.cells (gX (ui 10000000).s none 0 0++gX (ui 0).s none 0 0).toArray 58 (0,0))
 be:Below N w w'
 sz:w'.heap.size=N+4
def Ov(N:Nat):Value:=jG tq ⟨some ⟨N+1,0,none⟩,2,2⟩ ⟨some ⟨N+2,0,none⟩,1,1⟩ ⟨some ⟨N+3,0,none⟩,2,2⟩ ij
def FU(w:World)(a b c d:Obj):((((w.alloc a).alloc b).alloc c).alloc d).heap[w.heap.size]? =some a/\((((w.alloc a).alloc b).alloc c).alloc d).heap[w.heap.size+1]? =some b/\((((w.alloc a).alloc b).alloc c).alloc d).heap[w.heap.size+2]? =some c/\((((w.alloc a).alloc b).alloc c).alloc d).heap[w.heap.size+3]? =some d/\Below w w ((((w.alloc a).alloc b).alloc c).alloc d)/\((((w.alloc a).alloc b).alloc c).alloc d).heap.size=w.heap.size+4:=by
 have s1:(w.alloc a).heap.size=w.heap.size+1:=by simp
 have s2:((w.alloc a).alloc b).heap.size=w.heap.size+2:=by simp
 have e:(((w.alloc a).alloc b).alloc c).heap.size=w.heap.size+3:=by simp
 exact⟨(iC (by omega)).trans ((iC (by omega)).trans ((iC (by omega)).trans (ku rfl))),(iC (by omega)).trans ((iC (by omega)).trans (ku s1)),(iC (by omega)).trans (ku s2),ku e,gY (gY (gY (gY (TH _ _)))),by simp⟩
def AC(w:World):Calls prog 20 #[] w fun e w'=>e=.returned (Ov w)/\AB w w w':=by
 go_enter func20,ntmps20;go_wp2_with fail;obtain⟨a,b,c,d,f,g⟩:=FU w (.cells (iw tq ⟨some ⟨w.heap.size+1,0,none⟩,2,2⟩ ⟨some ⟨w.heap.size+2,0,none⟩,1,1⟩ ⟨some ⟨w.heap.size+3,0,none⟩,2,2⟩ ij).toArray 37) (.cells #[oZ,oZ,oZ,.int .i64 750000] 77) (.cells #[.int .i64 550000,.int .i64 1] 79) (.cells (gX (ui 10000000).s none 0 0++gX (ui 0).s none 0 0).toArray 58);refine ar (results_cell_row rfl _ _ w 37 _ (0,0) _ rfl a underlying37 rfl Tryz.infoLens) rfl ?_;exact⟨rfl,b,c,d,f,g⟩
def AB.lens{N:Nat}{w w':World}(h:AB N w w'):iP (fun b=>N<=b/\b<w'.heap.size) w' tq ⟨some ⟨N+1,0,none⟩,2,2⟩ ⟨some ⟨N+2,0,none⟩,1,1⟩ ⟨some ⟨N+3,0,none⟩,2,2⟩ ij:=by
 have n:=h.sz
 refine⟨⟨rfl,ag _,fun _=>⟨N+1,0,rfl,⟨by omega,by omega⟩,fun j c=>?_⟩⟩,⟨rfl,ag _,fun _=>⟨N+2,0,rfl,⟨by omega,by omega⟩,fun j c=>?_⟩⟩,
  ⟨rfl,ag _,fun _=>⟨N+3,0,rfl,⟨by omega,by omega⟩,fun i y a=>?_⟩⟩,RR.nil _ _ _ _ _ _,by show(2:Nat)<=_;omega,by show(1:Nat)<=_;omega,by show(2:Nat)<=_;omega,by decide,fun e=>(by cases e),fun e=>(by cases e),by decide⟩
 .have k:j<4:=c
  match j,k with
  |0,_=>exact VV h.f 0
  |1,_=>exact VV h.f 1
  |2,_=>exact VV h.f 2
  |3,_=>exact VV h.f 3
  |j+4,c=>omega
 .have g:j<2:=c
  match j,g with
  |0,_=>exact VV h.v 0
  |1,_=>exact VV h.v 1
  |j+2,c=>omega
 .match i,a with
  |0,a=>
   cases a
   exact⟨_,⟨none,0,0,rfl,IRp.nil _ _ _ _ _,by decide,fun _=>rfl,by decide⟩,fun j v d=>by
    have l:=(TG.1 d).1;have m:j<22:=l;rw[VV h.s,bo]
    show(gX _ none 0 0++gX _ none 0 0)[0+0*22+j]? =_
    rw[show 0+0*22+j=j by omega,aF l];exact d⟩
  |1,a=>
   cases a
   exact⟨_,⟨none,0,0,rfl,IRp.nil _ _ _ _ _,by decide,fun _=>rfl,by decide⟩,fun j v d=>by
    rw[VV h.s,bo]
    show(gX _ none 0 0++gX _ none 0 0)[0+1*22+j]? =_
    rw[aY (by show 22<=_;omega)]
    show(gX _ none 0 0)[0+1*22+j-22]? =_
    rw[show 0+1*22+j-22=j by omega];exact d⟩
  |i+2,a=>cases a
def TN{ops:Array Oper}{b:List Oper}{e:Oper}{d:Act}{w:World}{Q:Exit->Act->World->Prop}{g:Nat}{T:TypeId}{x:gR}{f v s k:iJ}(h:kr w g T x f v s k)(i:Region.wanted e (yielded ops d.tmps)=true)(y:Operand)(m:e.op=.load 37 y)
 (o:d.eval y=.pointer (J g))(l:wpList prog ops Q b (d.put e.dst (.agg #[x.nm,x.i9,x.pb,x.stop,x.p9,Z f.a f.n f.c,Z v.a v.n v.c,Z s.a s.n s.c,Z k.a k.n k.c])) w):wpList prog ops Q (e::b) d w:=
 pV i fun K j=>wp_load_mid 37 y m g 0 o (iw x f v s k) _ h.range underlying37 rfl Tryz.infoLens (j _ _ l)
def Ow(S:Nat->Prop)(w:World):iP S w mG ij ij ij ij:=
 ⟨IRp.nil _ _ _ _ _,IRp.nil _ _ _ _ _,RR.nil _ _ _ _ _ _,RR.nil _ _ _ _ _ _,by decide,by decide,by decide,by decide,fun _=>rfl,fun _=>rfl,by decide⟩
structure KW (w:World):Prop where
 g:GW w
 P:jY w w
 T:TW w w
def TW.go{w w':World}(h:TW w w)(hb:Below w w w'):TW w' w':=(h.below hb).mono hb.size
def KW.go{w w':World}(h:KW w)(hb:Below w w w'):KW w':=⟨h.g.below hb,h.P.go hb,h.T.go hb⟩
def CE(t:List UInt8)(x:gR)(h:nr t=⟨x,0,0⟩)(f v s k:iJ)(w:World)(y:iP (fun b=>b<w.heap.size) w x f v s k)(hw:KW w)(L:t.length<=100000):
 Calls prog 23 #[.string (bs t),jG x f v s k] w (iZ w (.bool true)):=by
 have d:=O (show Below w w (w.alloc (.cells (iw x f v s k).toArray 37))from(TH w w).alloc (ag _) _);have c:=O (show kr (w.alloc (.cells (iw x f v s k).toArray 37)) w 37 x f v s k from TL w _);have K:=O y;have i:=O hw;have H:=O h;clear y hw h;unfold jG;go_enter func23,ntmps23;go_upto_region 1 with fail;refine gI (fun B=>kr B w 37 x f v s k/\Below w w B) ⟨c,d⟩ ?_;clear c d;rintro j ⟨D:HQ _,Hb1:HQ _⟩
 have u:Calls prog 46 #[.string (bs t)] j (ye j ⟨x,0,0⟩):=by
  rw[<- H];exact vE t j (i.go Hb1).g (i.go Hb1).T (i.go Hb1).P L
 have F:=O u;clear u H
 go_wp2_with(first
  |(refine F.mono ?_;rintro e l ⟨r,z,s',k',rfl,E:HQ _,Hb2:HQ _⟩;unfold jG)
  |(refine ja x r z s' k' (TL l _) rfl rfl (.tmp 5) (.tmp 11) rfl rfl rfl ?_;intro A (C:HQ _) hw3;have a:Below l l A:=(by rw[hw3];exact ig (ag _) _ _ ((TH _ _).alloc (ag _) _));have n:=O (E.go a);have q:=O (K.go (I (I Hb1 Hb2) a));have m:=O (kr.go (kr.go D Hb2) a);have o:=O (I (I Hb1 Hb2) a);clear hw3 a)
  |(refine TN C rfl (.tmp 5) rfl rfl ?_)
  |(refine TN m rfl (.tmp 3) rfl rfl ?_)
  |(refine(xw x r z s' k' f v s k A n q).mono ?_;rintro e M ⟨rfl,p:HQ _⟩))
 go_ret;exact⟨rfl,I o p⟩
def rX(t:List UInt8)(line a:Int)(h:pU t line a)(w:World)(hw:KW w)(q:t.length<=100000):
 Calls prog 25 #[.string (bs t),line,a] w (iZ w (.bool true)):=by
 have k:Calls prog 46 #[.string (bs t)] w (ye w ⟨mG,line,a⟩):=by
  unfold pU at h;rw[<- h];exact vE t w hw.g hw.T hw.P q
 have p:=O k;clear k hw h;go_enter func25,ntmps25
 go_wp2_with(first
  |(refine p.mono ?_;rintro e c ⟨j,l,s',k',rfl,o:HQ _,Hb2:HQ _⟩;unfold jG)
  |(refine ja mG j l s' k' (TL c _) rfl rfl (.tmp 7) (.tmp 13) rfl rfl rfl ?_;intro m (n:HQ _) hw3;have b:Below c c m:=(by rw[hw3];exact ig (ag _) _ _ ((TH _ _).alloc (ag _) _));have d:=O (o.go b);have f:=O (I Hb2 b);clear hw3 b)
  |(refine TN n rfl (.tmp 7) rfl rfl ?_)
  |(refine(xw mG j l s' k' ij ij ij ij m d (Ow _ _)).mono ?_;rintro e r ⟨rfl,i:HQ _⟩))
 go_ret;exact⟨rfl,I f i⟩
def CD(w:World):Calls prog 22 #[] w fun e w'=>e=.returned (.slice (J (w.heap.size)) 12 12)/\w'=w.alloc (.cells (ji jq).toArray 9):=by
 go_enter func22,ntmps22;go_wp2;go_ret;exact⟨rfl,rfl⟩
def AD:∀(ws:List (List UInt8)),ws≠[]->rm ws=Lib.join ws [10]++[10]
 |[],h=>absurd rfl h
 |[a],_=>by unfold rm;simp[Lib.join]
 |a::b::r,_=>by
  have h:=AD (b::r) (by simp)
  have e:rm (a::b::r)=(a++[10])++rm (b::r):=by unfold rm;simp
  rw[e,h];simp[Lib.join,Lib.joinTail]
def xx(ws:List (List UInt8))(g off c:Nat)(w:World)(h:∀i x,ws[i]? =some x->w.cell? ⟨g,off+i,none⟩=some (.string (bs x)))(r:g<w.heap.size)(t:ws.length<=c)(u:ws.length<=1000000)(p:(rm ws).length<=1000000)(h0:ws≠[]):
 Calls prog 21 #[Z (some ⟨g,off,none⟩) ws.length c] w (iZ w (.string (bs (rm ws)))):=by
 have k:(ws.map bs).map (fun b=>b.data.toList)=ws:=by rw[dD];exact fY (fun x=>rfl) ws
 have d:∀(j:Nat) x,(ws.map bs)[j]? =some x->w.cell? ⟨g,off+j,none⟩=some (.string x):=fun j x l=>by
  rw[aR]at l
  cases hw:ws[j]? with
  |none=>rw[hw]at l;cases l
  |some y=>rw[hw]at l;cases l;exact h j y hw
 have n:=AD ws h0
 have q:(Lib.join ws [10]).length<=1000000:=by rw[n,al]at p;omega
 have key:=Tryz.strings_Join g off c (ws.map bs) {data:=#[10]} w d r (by rw[aU];omega) (by rw[aU];omega) (by rw[k];show(Lib.join ws [10]).length<=_;omega);rw[aU,k]at key
 have a:bs (Lib.join ws [10])++({data:=#[10]}:ByteArray)=bs (rm ws):=by rw[n];exact oQ _ [10]
 have m:=O key;have f:=O a;clear h d k key a n p;go_enter func21,ntmps21;go_wp2_with fail;refine m.mono ?_;rintro e v ⟨rfl,o:HQ _⟩;clear m
 change (Lib.join ws [10]).length<=1000000 at q
 have a:=f.out;clear f
 have s:¬9223372036854775807<(Lib.join ws [10]).length+1:=by omega
 have f:=O a;clear a;go_wp2;go_ret;exact⟨by rw[<- f];rfl,o⟩
def uj{W:World}{N:Nat}{ws:List (List UInt8)}(h:W.heap[N]? =some (.cells (ji ws).toArray 9 (0,0)))(j:Nat)(x:List UInt8)(a:ws[j]? =some x):W.cell? ⟨N,j,none⟩=some (.string (bs x)):=by
 rw[VV h j,bo];unfold ji;rw[aR,a];rfl
def lU{o:Oper}{a:Act}{K:Act->World->Prop}{Q:Exit->Act->World->Prop}{w:World}(s x:Operand)(t:TypeId)(r:o.op=.call {callee:=.builtin .append,args:=#[s,x],argTypes:=#[t,t]})(ht:prog.underlying t=some (.slice 9))
 (base:Nat)(v:Value)(n:Nat)(l ys:List (List UInt8))(hs:a.eval s=v)(hown:w.ownsRow base 9 1 v n (ji l))(sp:Option Addr)(m c:Nat)(hx:a.eval x=.slice sp m c)(hys:ys.length=m)
 (hnews:0<m-> ∃b off,sp=some ⟨b,off,none⟩/\ ∀(j:Nat) y,ys[j]? =some y->w.cell? ⟨b,off+j,none⟩=some (.string (bs y)))(hmn:sp=none->m=0/\c=0)(hnm:n+m<=1000000)(hbase:base<=w.heap.size)
 (h:∀f w',w'.ownsRow base 9 1 f (n+m) (ji (l++ys))->w.grownBy w' v.ownBlock->K (a.put o.dst f) w'):o.wp prog a w K Q:=by
 obtain⟨i,g,k,p,q⟩:=sd Tryz.infoStr
 cases sp with
 |none=>
  obtain⟨rfl,rfl⟩:=hmn rfl;obtain rfl:ys=[]:=aX.1 hys;have e:=run_append_owned_none (P:=prog) (w:=w) base t o.type _ i 1 ht g v n (ji l) hown;unfold Oper.wp execOp;simp only[r,resolve,invoke,builtin,bR,cT,bU,List.map_toArray,aN,bI,hs,hx,e];exact h v w (by simpa using hown) ⟨rfl,rfl,rfl,ag _,fun _ _ _=>rfl⟩
 |some z=>
  obtain⟨f,w',D,h2,h3,_,_⟩:=run_append_own_at (P:=prog) w base t o.type _ i (.string {data:=#[]}) 1 16 ht g k p q (by simp[Value.cells]) (by omega) v n (ji l) hown z m c (ji ys) (by rw[xo,hys,dn]) (fun j u d=>by
   by_cases C:0<m
   .obtain⟨b,off,B,A⟩:=hnews C
    obtain rfl:=aE B;unfold ji at d;rw[aR]at d
    cases hy:ys[j]? with
    |none=>rw[hy]at d;cases d
    |some y=>
     rw[hy]at d;cases d;have:=A j y hy;unfold Addr.add;by_cases h0:j=0
     .subst h0;simpa using this
     .simpa[h0]using this
   .have:ys.length=0:=by omega
    rw[aX.1 this]at d;cases d) (by unfold ji;simp[Value.oneCell']) (by unfold maxLen;omega) (by omega) hbase
  unfold Oper.wp execOp;simp only[r,resolve,invoke,builtin,bR,cT,bU,List.map_toArray,aN,bI,hs,hx,D];rw[<- Du]at h2;exact h f w' h2 h3
def rW(i:Nat)(hi:i<12)(ws:List (List UInt8))(a:Option Addr)(n c:Nat)(w:World)(hw:ua w a n c ws w)(hn:n<=10)(hl:(wJ i ws).length<=1000000)(M:a=none->c=0)(a1:jq.take i++ws++jq.drop (i+1)≠[]):
 Calls prog 24 #[.int .i64 (i:Int),Z a n c] w (iZ w (.string (bs (wJ i ws)))):=by
 have X:=O hw;have Hl:=O hl;have L:=O a1;have a0:=hw.1;clear hw hl a1
 have b1:(i:Int) <12:=by omega
 have b5:IntKind.i64.wrap ((i:Int)+1)=(i:Int)+1:=TM _ (by omega)
 have b3:(i:Int)+1<=12:=by omega
 have b4:(i:Int)<=12:=by omega
 have b2:(0:Int)<=(i:Int)+1:=by omega
 go_enter func24,ntmps24
 go_wp2_with(refine(CD _).mono ?_;rintro e w1 ⟨rfl,rfl⟩)
 by_cases a2:i=11
 .subst a2
  have b0:IntKind.i64.wrap 12=12:=TM _ (by omega);refine kC (S:=fun _=>False) 13 [(1,true),(2,true),(3,true),(5,true),(7,true),(8,true),(9,true),(10,true),(0,false),(4,false),(6,false),(11,false),(12,false)] (by kernel_rfl) (by kernel_rfl) ?_
  iterate 8
   refine gU (v:=?_) ?_ ?_;rotate_left
   .intro y l
    skip;go_simp;with_reducible rfl
   try simp only[V]
  refine gP (fun K f=>?_);go_simp;refine f _ _ (fun x m=>m.elim) ?_;clear f K;(try simp only[V]);have N:(w.alloc (.cells (ji jq).toArray 9)).heap[w.heap.size]? =some (.cells (ji jq).toArray 9 (0,0)):=TL w _;have t:Below w w (w.alloc (.cells (ji jq).toArray 9)):=(TH _ _).alloc (ag _) _
  have W:(w.alloc (.cells (ji jq).toArray 9)).heap.size=w.heap.size+1:=by simp
  have b:=World.ownsRow_made (e:=9) (size:=1) (base:=w.heap.size+1) (w.alloc (.cells (ji jq).toArray 9)) #[] 0 (by omega) (by unfold maxLen;omega) rfl;rw[W]at b;have o:Below (w+1) (w.alloc (.cells (ji jq).toArray 9)) ((w.alloc (.cells (ji jq).toArray 9)).alloc (.cells #[] 9)).drew:=((TH _ _).alloc (by omega) _).drew;have a5:=o.size;refine gP (fun K f=>?_)
  refine lU _ _ _ rfl underlying88 (w+1) _ 0 [] (jq.take 11) rfl b _ 11 12 rfl (by rw[bn];show min 11 12=11;omega) (fun _=>⟨w.heap.size,0,rfl,fun j y l=>by
   rw[aV]
   exact(o.cell (p:=⟨w.heap.size,j,none⟩) (by show w.heap.size<w.heap.size+1;omega)).trans (uj N j y (by
    have hj:=(TG.1 l).1;rw[bn]at hj
    rw[gd (by omega)]at l;exact l))⟩) (by intro e;cases e) (by omega) (by omega) ?_
  intro v2 W2 d C;refine f _ _ (fun x m=>m.elim) ?_;clear f K;(try simp only[V]);have q:=o.grown C (by omega) (fun k e=>(b.lt k e).1);have a6:=q.size;rw[aV,bD]at d;have F:=t.trans (q.mono (by omega));refine gP (fun K f=>?_)
  refine lU _ _ _ rfl underlying88 (w+1) _ 11 (jq.take 11) ws rfl d a n c rfl a0 (fun h0=>by
   obtain⟨R,off,e,hlt,T⟩:=X.2.2 h0
   exact⟨R,off,e,fun j y l=>(F.cell (p:=⟨R,off+j,none⟩) hlt).trans (T j y l)⟩) (fun e=>⟨by have:=X.2.1;have:=M e;omega,M e⟩) (by omega) (by omega) ?_
  intro v3 W3 g D;refine f _ _ (fun x m=>m.elim) ?_;clear f K;(try simp only[V]);have s:=q.grown D (by omega) (fun k e=>(d.lt k e).1);have a7:=s.size;refine gP (fun K f=>?_)
  refine lU _ _ _ rfl underlying88 (w+1) _ (11+n) (jq.take 11++ws) (jq.drop (11+1)) rfl g _ (0) (0) rfl (by rw[eQ];show 12-(11+1)=0;omega) (fun _=>⟨w.heap.size,0,rfl,fun j y l=>by
   rw[cp]at l
   have h1:=(TG.1 l).1;have h2:jq.length=12:=rfl;omega⟩) (by intro e;cases e) (by omega) (by omega) ?_
  intro v4 W4 h E;refine f _ _ (fun x m=>m.elim) ?_;clear f K;(try simp only[V]);have A:=s.grown E (by omega) (fun k e=>(g.lt k e).1);have H:=t.trans (A.mono (by omega));obtain⟨a4,c4,rfl⟩:=kx h;obtain⟨g4,rfl,_,z,u,a3,r⟩:=tZ h (ez.2 L);have key:=xx (jq.take 11++ws++jq.drop (11+1)) g4 0 c4 W4 (fun j y l=>r j (bs y) (by rw[aR,l];rfl)) z (by omega) (by rw[<- u];omega) Hl L;rw[<- u]at key;have Q:=O key;clear key u;refine gP (fun K f=>?_);go_simp;refine Q.mono ?_;rintro e W5 ⟨rfl,B⟩;refine f _ _ (fun x m=>m.elim) ?_;clear f K;(try simp only[V]);refine iu rfl ?_;have P:=O (I H B);clear B H A s q o F t r h g d b N C D E;go_wp2;go_ret;exact⟨by first|rfl|(unfold wJ;rw[aC];rfl),P⟩
 .refine kC (S:=fun _=>False) 13 [(1,true),(2,true),(3,true),(5,true),(7,true),(8,true),(9,true),(10,true),(0,false),(4,false),(6,false),(11,false),(12,false)] (by kernel_rfl) (by kernel_rfl) ?_
  have a8:¬12=i+1:=by omega
  have a9:¬i+1=12:=by omega
  iterate 8
   refine gU (v:=?_) ?_ ?_;rotate_left
   .intro y l
    skip;go_simp;with_reducible rfl
   try simp only[V]
  refine gP (fun K f=>?_);go_simp;refine f _ _ (fun x m=>m.elim) ?_;clear f K;(try simp only[V]);have N:(w.alloc (.cells (ji jq).toArray 9)).heap[w.heap.size]? =some (.cells (ji jq).toArray 9 (0,0)):=TL w _;have t:Below w w (w.alloc (.cells (ji jq).toArray 9)):=(TH _ _).alloc (ag _) _
  have W:(w.alloc (.cells (ji jq).toArray 9)).heap.size=w.heap.size+1:=by simp
  have b:=World.ownsRow_made (e:=9) (size:=1) (base:=w.heap.size+1) (w.alloc (.cells (ji jq).toArray 9)) #[] 0 (by omega) (by unfold maxLen;omega) rfl;rw[W]at b;have o:Below (w+1) (w.alloc (.cells (ji jq).toArray 9)) ((w.alloc (.cells (ji jq).toArray 9)).alloc (.cells #[] 9)).drew:=((TH _ _).alloc (by omega) _).drew;have a5:=o.size;refine gP (fun K f=>?_)
  refine lU _ _ _ rfl underlying88 (w+1) _ 0 [] (jq.take i) rfl b _ i 12 rfl (by rw[bn];show min i 12=i;omega) (fun _=>⟨w.heap.size,0,rfl,fun j y l=>by
   rw[aV]
   exact(o.cell (p:=⟨w.heap.size,j,none⟩) (by show w.heap.size<w.heap.size+1;omega)).trans (uj N j y (by
    have hj:=(TG.1 l).1;rw[bn]at hj
    rw[gd (by omega)]at l;exact l))⟩) (by intro e;cases e) (by omega) (by omega) ?_
  intro v2 W2 d C;refine f _ _ (fun x m=>m.elim) ?_;clear f K;(try simp only[V]);have q:=o.grown C (by omega) (fun k e=>(b.lt k e).1);have a6:=q.size;rw[aV,bD]at d;have F:=t.trans (q.mono (by omega));refine gP (fun K f=>?_)
  refine lU _ _ _ rfl underlying88 (w+1) _ i (jq.take i) ws rfl d a n c rfl a0 (fun h0=>by
   obtain⟨R,off,e,hlt,T⟩:=X.2.2 h0
   exact⟨R,off,e,fun j y l=>(F.cell (p:=⟨R,off+j,none⟩) hlt).trans (T j y l)⟩) (fun e=>⟨by have:=X.2.1;have:=M e;omega,M e⟩) (by omega) (by omega) ?_
  intro v3 W3 g D;refine f _ _ (fun x m=>m.elim) ?_;clear f K;(try simp only[V]);have s:=q.grown D (by omega) (fun k e=>(d.lt k e).1);have a7:=s.size;refine gP (fun K f=>?_)
  refine lU _ _ _ rfl underlying88 (w+1) _ (i+n) (jq.take i++ws) (jq.drop (i+1)) rfl g _ (11-i) (11-i) rfl (by rw[eQ];show 12-(i+1)=11-i;omega) (fun _=>⟨w.heap.size,i+1,rfl,fun j y l=>by
   rw[cp]at l
   exact(s.cell (p:=⟨w.heap.size,i+1+j,none⟩) (by show w.heap.size<w.heap.size+1;omega)).trans (uj N (i+1+j) y l)⟩) (by intro e;cases e) (by omega) (by omega) ?_
  intro v4 W4 h E;refine f _ _ (fun x m=>m.elim) ?_;clear f K;(try simp only[V]);have A:=s.grown E (by omega) (fun k e=>(g.lt k e).1);have H:=t.trans (A.mono (by omega));obtain⟨a4,c4,rfl⟩:=kx h;obtain⟨g4,rfl,_,z,u,a3,r⟩:=tZ h (ez.2 L);have key:=xx (jq.take i++ws++jq.drop (i+1)) g4 0 c4 W4 (fun j y l=>r j (bs y) (by rw[aR,l];rfl)) z (by omega) (by rw[<- u];omega) Hl L;rw[<- u]at key;have Q:=O key;clear key u;refine gP (fun K f=>?_);go_simp;refine Q.mono ?_;rintro e W5 ⟨rfl,B⟩;refine f _ _ (fun x m=>m.elim) ?_;clear f K;(try simp only[V]);refine iu rfl ?_;have P:=O (I H B);clear B H A s q o F t r h g d b N C D E;go_wp2;go_ret;exact⟨by first|rfl|(unfold wJ;rw[aC];rfl),P⟩
def IQ{P:Program}{g:Oper}{e:Act}{y:World}{b:Nat}{T:TypeId}{x:gR}{f v s k:iJ}{d:TypeDesc}(h:kr y b T x f v s k)(l:P.underlying 37=some d)(i:d.isRow=true)(hi:(P.info? 37).map (·.size)=some 9)(z:Operand)(j:g.op=.load 37 z)
 (m:e.eval z=.pointer (J b)):(execOp e.eval g).run P y=.ok (.value (.agg #[x.nm,x.i9,x.pb,x.stop,x.p9,Z f.a f.n f.c,Z v.a v.n v.c,Z s.a s.n s.c,Z k.a k.n k.c])) y:=by
 unfold execOp;simp only[j,m,Instr.loadAt,Instr.sureAddr,bR,cT,bU,run_loadVar_mid y b 0 37 (iw x f v s k) d h.range l i hi];rfl
def Br{ops:Array Oper}{Q:Exit->Act->World->Prop}{N i:Nat}{j:List Nat}{fs:List (Nat×Tmp×Obj)}{C:Nat->Prop}{d:List (Nat×Bool)}{g:Oper}{e:Act}{w:World}(hi:ops.toList[i]? =some g)(l:j.contains i=false)
 (hw:Region.wanted g (yielded ops e.tmps)=true){b:Nat}{T:TypeId}{x:gR}{f v s k:iJ}(h:∀y,Below w w y->kr y b T x f v s k)(z:Operand)(o:g.op=.load 37 z)
 (p:e.eval z=.pointer (J b))(m:Bx prog ops Q N j fs C d (e.put g.dst (.agg #[x.nm,x.i9,x.pb,x.stop,x.p9,Z f.a f.n f.c,Z v.a v.n v.c,Z s.a s.n s.c,Z k.a k.n k.c])) w):Bx prog ops Q N j fs C ((i,true)::d) e w:=
 gZ (fun y q=>IQ (h y q) underlying37 rfl Tryz.infoLens z o p) m hi l hw
def IS:wI tq=.tuple #[.string (bs (rm jq)),oZ]:=by
 unfold wI;rw[IN,aq rfl,aq rfl,CC]
def IT(N:Nat)(w0 w:World)(h:AB N w0 w)(hw:KW w):Calls prog 6 #[Ov N] w (iZ w (.tuple #[.string (bs (rm jq)),oZ])):=by
 rw[<- IS];exact CB tq _ _ _ _ w (h.lens.kept (gN.refl _ _) (fun b hb=>hb.2)) hw.g hw.P hw.T (fun _=>by rw[CC];exact bx (by kernel_rfl))
def Bs{N:Nat}{w w':World}(h:Below w w w'):gN (fun b=>N<=b/\b<w.heap.size) w w':=fun b hb=>h.block b hb.2
def yR{W:World}{N:Nat}{ws:List (List UInt8)}(h:W.heap[N]? =some (.cells (ji ws).toArray 9 (0,0))):ua W (J N) ws.length ws.length ws W:=
 ⟨rfl,ag _,fun _=>⟨N,0,rfl,TK h,fun i x a=>by rw[aV];exact uj h i x a⟩⟩
def IU{N:Nat}{w w':World}(h:AB N w w'){W:World}(hb:Below w' w' W):iP (fun b=>b<(W.setCell ⟨N+3,1,none⟩ (.int .i64 10000000)).heap.size) (W.setCell ⟨N+3,1,none⟩ (.int .i64 10000000)) wK ⟨some ⟨N+1,0,none⟩,2,2⟩ ⟨some ⟨N+2,0,none⟩,1,1⟩ ⟨some ⟨N+3,0,none⟩,2,2⟩ ij:=by
 have q:=h.sz;have p:=hb.size
 have o:(W.setCell ⟨N+3,1,none⟩ (.int .i64 10000000)).heap.size=W.heap.size:=by simp
 have hf:=(iS (u:=.int .i64 10000000) (j:=1) (show N+1≠N+3 by omega)).trans ((hb.block (N+1) (by omega)).trans h.f);have a:=(iS (u:=.int .i64 10000000) (j:=1) (show N+2≠N+3 by omega)).trans ((hb.block (N+2) (by omega)).trans h.v);have k:=gG ((hb.block (N+3) (by omega)).trans h.s) 1 (.int .i64 10000000);have g:(W.setCell ⟨N+3,1,none⟩ (.int .i64 10000000)).heap[N+3]? =some (.cells (gX {(ui 10000000).s with r9:=10000000} none 0 0++gX (ui 0).s none 0 0).toArray 58 (0,0)):=k
 refine⟨⟨rfl,ag _,fun _=>⟨N+1,0,rfl,by omega,fun j d=>?_⟩⟩,⟨rfl,ag _,fun _=>⟨N+2,0,rfl,by omega,fun j d=>?_⟩⟩,
  ⟨rfl,ag _,fun _=>⟨N+3,0,rfl,by omega,fun i y c=>?_⟩⟩,RR.nil _ _ _ _ _ _,by show(2:Nat)<=_;omega,by show(1:Nat)<=_;omega,by show(2:Nat)<=_;omega,by decide,fun e=>(by cases e),fun e=>(by cases e),by decide⟩
 .have m:j<4:=d
  match j,m with
  |0,_=>exact VV hf 0
  |1,_=>exact VV hf 1
  |2,_=>exact VV hf 2
  |3,_=>exact VV hf 3
  |j+4,d=>omega
 .have l:j<2:=d
  match j,l with
  |0,_=>exact VV a 0
  |1,_=>exact VV a 1
  |j+2,d=>omega
 .match i,c with
  |0,c=>
   cases c
   exact⟨_,⟨none,0,0,rfl,IRp.nil _ _ _ _ _,by decide,fun _=>rfl,by decide⟩,fun j v a=>by
    have n:=(TG.1 a).1;rw[VV g,bo]
    show(gX _ none 0 0++gX _ none 0 0)[0+0*22+j]? =_
    rw[show 0+0*22+j=j by omega,aF n];exact a⟩
  |1,c=>
   cases c
   exact⟨_,⟨none,0,0,rfl,IRp.nil _ _ _ _ _,by decide,fun _=>rfl,by decide⟩,fun j v a=>by
    rw[VV g,bo]
    show(gX _ none 0 0++gX _ none 0 0)[0+1*22+j]? =_
    rw[aY (by show 22<=_;omega)]
    show(gX _ none 0 0)[0+1*22+j-22]? =_
    rw[show 0+1*22+j-22=j by omega];exact a⟩
  |i+2,c=>cases c
def Mc(w:World)(hw:KW w):Calls prog 8 #[] w (iZ w (.bool true)):=by
 have Hw:=O hw;clear hw;go_enter func8,ntmps8;go_wp2_with fail;refine(AC w).mono ?_;rintro e w1 ⟨rfl,Hf:HQ _⟩;have Ht:=O (IT w w w1 Hf (Hw.go Hf.be));generalize Ov w=Vq0 at*;obtain⟨T0,a0:HQ _⟩:∃T0,rm jq=T0:=⟨_,rfl⟩;rw[a0]at Ht
 go_wp2_with(refine Ht.mono ?_;rintro e d ⟨rfl,f0:HQ _⟩)
 refine(AC d).mono ?_;rintro e w3 ⟨rfl,g:HQ _⟩
 go_upto_region 3 with(refine ja tq ⟨some ⟨d.heap.size+1,0,none⟩,2,2⟩ ⟨some ⟨d.heap.size+2,0,none⟩,1,1⟩ ⟨some ⟨d.heap.size+3,0,none⟩,2,2⟩ ij (TL w3 _) rfl rfl (.tmp 3) (.tmp 11) rfl rfl rfl ?_;intro H (H4:HQ _) hw4;have i:Below w3 w3 H:=(by rw[hw4];exact ig (ag _) _ _ ((TH _ _).alloc (ag _) _));have a5:=O i;clear i hw4)
 have g8:=g.sz;have c7:H.cell? ⟨w3.heap.size,7,none⟩=some (.slice (J (d+3)) 2 2):=VV H4 7;have hS:=(a5.block (d+3) (by omega)).trans g.s;have d1:H.cell? ⟨d.heap.size+3,1,none⟩=some (.int .i64 0):=VV hS 1;have g1:H.frozen? ⟨d.heap.size+3,1,none⟩=false:=gD hS 1;have HS:=O hS;clear hS;have i2:=O g8;clear g8;go_wp2_with fail;have hL:=IU g a5;have hB:kr (H.setCell ⟨d.heap.size+3,1,none⟩ (.int .i64 10000000)) w3 37 wK ⟨some ⟨d.heap.size+1,0,none⟩,2,2⟩ ⟨some ⟨d.heap.size+2,0,none⟩,1,1⟩ ⟨some ⟨d.heap.size+3,0,none⟩,2,2⟩ ij:=(iS (by have:=i2.out;omega)).trans H4
 have c9:Below w w (H.setCell ⟨d.heap.size+3,1,none⟩ (.int .i64 10000000)):=by
  have h1:=Hf.be;have h2:=I h1 f0;have h3:=I h2 g.be;exact kZ (I h3 a5) (by have:=h2.size;omega)
 clear c7 d1 g1;generalize H.setCell ⟨d.heap.size+3,1,none⟩ (.int .i64 10000000)=W5 at*;have HL:=O hL;have c:=O hB;have f1:=O c9;have e8:=O (Hw.go c9);clear hL hB c9 HS a5 H4 g f0 Hf Ht;refine(CD W5).mono ?_;rintro e w6 ⟨rfl,rfl⟩;have d3:=xx jq W5 0 12 (W5.alloc (.cells (ji jq).toArray 9)) (fun j x hx=>by rw[aV];exact uj (TL W5 _) j x hx) (by simp) (by decide) (by decide) (bx (by kernel_rfl)) (by decide);rw[a0]at d3;have a3:=O (show Below W5 W5 (W5.alloc (.cells (ji jq).toArray 9))from(TH _ _).alloc (ag _) _);have f4:=O d3;clear d3
 go_wp2_with(refine f4.mono ?_;rintro e w7 ⟨rfl,f5⟩;have E:=O (I a3 f5);clear f5)
 have g6:nr T0=⟨tq,0,0⟩:=by rw[<- a0];exact Ma
 have b2:T0.length<=100000:=by rw[<- a0];exact bx (by kernel_rfl)
 have e9:=O (HL.go E);have e7:=O (c.go E);have Q:=O (e8.go E);have f2:=O g6;have a1:=O b2;have a6:=O (I f1 E);clear g6 b2 HL c e8 E a3 f4 f1 Hw;refine ic 18 [] [] [(0,true),(1,true),(2,true),(3,true),(4,true),(5,true),(6,true),(7,true),(8,true),(9,false),(10,false),(11,true),(12,true),(15,true),(13,false),(14,false),(16,false),(17,true)] (by kernel_rfl) (by kernel_rfl) ⟨by simp,by simp,fun _ h=>by cases h⟩ (fun _ _ _ _ _ h=>h) (fun _ _ o _ _ h=>by cases o<;>exact h) ?_
 iterate 9
  refine gZ (v:=?_) ?_ ?_;rotate_left
  .intro y hy
   skip;go_simp;with_reducible rfl
  try simp only[V]
 refine kH rfl (by rfl) (fun x1 g9 K f=>?_);go_simp;refine(AC x1).mono ?_;rintro e x2 ⟨rfl,hf⟩;refine f _ _ hf.be ?_;clear f K;have c2:Below w7 w7 x1:=gJ (k:=1) g9;have d4:=I c2 hf.be;(try simp only[V]);refine kH rfl (by rfl) (fun x3 F K f=>?_);go_simp;refine(CE T0 tq f2 _ _ _ _ x3 (hf.lens.kept (Bs F) (fun b hb=>eb hb.2 F.size)) (Q.go (I d4 F)) a1).mono ?_;rintro e x4 ⟨rfl,i⟩;refine f _ _ i ?_;clear f K;have d5:=I (I d4 F) i;clear hf g9 c2 d4 F i;try simp only[V]
 iterate 2
  refine gZ (v:=?_) ?_ ?_;rotate_left
  .intro y hy
   skip;go_simp;with_reducible rfl
  try simp only[V]
 refine Br rfl rfl (by rfl) (fun y hy=>e7.go (I d5 hy)) (.tmp 3) rfl rfl ?_;(try simp only[V]);refine kH rfl (by rfl) (fun x5 h0 K f=>?_);go_simp;refine f _ _ ((TH _ _).alloc (ag _) _) ?_;clear f K;have d2:(x5.alloc (.cells (ji [[116,104,105,99,107,32,49,48],[99,117,114,118,32,48,46,48,49]]).toArray 9)).heap[x5.heap.size]? =some (.cells (ji [[116,104,105,99,107,32,49,48],[99,117,114,118,32,48,46,48,49]]).toArray 9 (0,0)):=TL x5 _;have h4:Below w7 w7 (x5.alloc (.cells (ji [[116,104,105,99,107,32,49,48],[99,117,114,118,32,48,46,48,49]]).toArray 9)):=gY (I d5 h0);(try simp only[V]);refine kH rfl (by rfl) (fun x7 d6 K f=>?_);go_simp;have g5:=(d6.block _ (TK d2)).trans d2;refine(rW 9 (by omega) [[116,104,105,99,107,32,49,48],[99,117,114,118,32,48,46,48,49]] _ 2 2 x7 (yR g5) (by omega) (bx (by kernel_rfl)) (by intro e;cases e) (by decide)).mono ?_;rintro e x8 ⟨rfl,d0⟩;refine f _ _ d0 ?_;clear f K;have c3:=I (I h4 d6) d0;clear d2 g5 h4 d6 d0 h0 d5;obtain⟨T1,b3⟩:∃T1,wJ 9 [[116,104,105,99,107,32,49,48],[99,117,114,118,32,48,46,48,49]]=T1:=⟨_,rfl⟩
 have g7:nr T1=⟨wK,0,0⟩:=by rw[<- b3];exact Mb
 have b4:T1.length<=100000:=by rw[<- b3];exact bx (by kernel_rfl)
 rw[b3];have f3:=O g7;have a2:=O b4;clear g7 b4 b3;(try simp only[V]);refine kH rfl (by rfl) (fun x9 c4 K f=>?_);go_simp;refine(CE T1 wK f3 ⟨some ⟨d.heap.size+1,0,none⟩,2,2⟩ ⟨some ⟨d.heap.size+2,0,none⟩,1,1⟩ ⟨some ⟨d.heap.size+3,0,none⟩,2,2⟩ ij x9 (e9.go (I c3 c4)) (Q.go (I c3 c4)) a2).mono ?_;rintro e i9 ⟨rfl,m⟩;refine f _ _ m ?_;clear f K;have C:=I (I c3 c4) m;clear c3 c4 m;try simp only[V]
 iterate 1
  refine gZ (v:=?_) ?_ ?_;rotate_left
  .intro y hy
   skip;go_simp;with_reducible rfl
  try simp only[V]
 refine jV (l:=[_]) rfl (fun c5 D=>?_);have a7:=O (Q.go (I C D));have a4:=O (I a6 (I C D));clear C D e9 e7 Q a6 f2 a1 f3 a2;go_wp2_with fail;have a:=a7;have c:=a4;clear a7 a4;have b5:Below c5 c5 (c5.alloc (.cells (ji [[119,97,118,101,32,53,53,48,46,48,32,49]]).toArray 9)):=(TH _ _).alloc (ag _) _;refine(rW 7 (by omega) [[119,97,118,101,32,53,53,48,46,48,32,49]] _ 1 1 _ (yR (TL c5 _)) (by omega) (bx (by kernel_rfl)) (by intro e;cases e) (by decide)).mono ?_;rintro e i3 ⟨rfl,b8⟩;have n:=I b5 b8;obtain⟨P1,a8⟩:∃T,wJ 7 [[119,97,118,101,32,53,53,48,46,48,32,49]]=T:=⟨_,rfl⟩
 have f6:pU P1 8 5:=by rw[<- a8];exact SI
 have g0:P1.length<=100000:=by rw[<- a8];exact bx (by kernel_rfl)
 rw[a8];have h5:=O f6;have h8:=O g0;have R:=O (a.go n);have L:=O (I c n);clear f6 g0 a8 n b8 a c b5;have a:=R;have c:=L;go_wp2_with fail;refine(rX P1 8 5 h5 i3 a h8).mono ?_;rintro e c6 ⟨rfl,t⟩;have e2:=O (R.go t);have d7:=O (I L t);clear t;clear a c;have a:=e2;have c:=d7;go_wp2_with fail;have b6:Below c6 c6 (c6.alloc (.cells (ji [[116,104,105,99,107,32,49,48],[116,104,105,99,107,32,49,48]]).toArray 9)):=(TH _ _).alloc (ag _) _;refine(rW 9 (by omega) [[116,104,105,99,107,32,49,48],[116,104,105,99,107,32,49,48]] _ 2 2 _ (yR (TL c6 _)) (by omega) (bx (by kernel_rfl)) (by intro e;cases e) (by decide)).mono ?_;rintro e i4 ⟨rfl,b9⟩;have p:=I b6 b9;obtain⟨P2,a9⟩:∃T,wJ 9 [[116,104,105,99,107,32,49,48],[116,104,105,99,107,32,49,48]]=T:=⟨_,rfl⟩
 have f7:pU P2 11 5:=by rw[<- a9];exact SJ
 have g2:P2.length<=100000:=by rw[<- a9];exact bx (by kernel_rfl)
 rw[a9];have g:=O f7;have h9:=O g2;have S:=O (a.go p);have M:=O (I c p);clear f7 g2 a9 p b9 a c b6;have a:=S;have c:=M;go_wp2_with fail;refine(rX P2 11 5 g i4 a h9).mono ?_;rintro e i7 ⟨rfl,u⟩;have e3:=O (S.go u);have d8:=O (I M u);clear u;clear a c;have a:=e3;have c:=d8;go_wp2_with fail;refine(rW 11 (by omega) [] none 0 0 i7 ⟨rfl,ag _,fun h=>absurd h (by omega)⟩ (by omega) (bx (by kernel_rfl)) (fun _=>rfl) (by decide)).mono ?_;rintro e i5 ⟨rfl,c0⟩;have q:=c0;obtain⟨P3,b0⟩:∃T,wJ 11 []=T:=⟨_,rfl⟩
 have f8:pU P3 12 5:=by rw[<- b0];exact SK
 have g3:P3.length<=100000:=by rw[<- b0];exact bx (by kernel_rfl)
 rw[b0];have h6:=O f8;have i0:=O g3;have W:=O (a.go q);have N:=O (I c q);clear f8 g3 b0 q c0 a c;have a:=W;have c:=N;go_wp2_with fail;refine(rX P3 12 5 h6 i5 a i0).mono ?_;rintro e i8 ⟨rfl,z⟩;have e4:=O (W.go z);have d9:=O (I N z);clear z;clear a c;have a:=e4;have c:=d9;go_wp2_with fail;refine(rX [] 1 5 SN i8 a (by decide)).mono ?_;rintro e c8 ⟨rfl,A⟩;have e5:=O (a.go A);have e0:=O (I c A);clear a c A;have a:=e5;have c:=e0;go_wp2_with fail;have b7:Below c8 c8 (c8.alloc (.cells (ji [[115,116,111,112,32,49]]).toArray 9)):=(TH _ _).alloc (ag _) _;refine(rW 3 (by omega) [[115,116,111,112,32,49]] _ 1 1 _ (yR (TL c8 _)) (by omega) (bx (by kernel_rfl)) (by intro e;cases e) (by decide)).mono ?_;rintro e i6 ⟨rfl,c1⟩;have r:=I b7 c1;obtain⟨P5,b1⟩:∃T,wJ 3 [[115,116,111,112,32,49]]=T:=⟨_,rfl⟩
 have f9:pU P5 0 120:=by rw[<- b1];exact SM
 have g4:P5.length<=100000:=by rw[<- b1];exact bx (by kernel_rfl)
 rw[b1];have h7:=O f9;have i1:=O g4;have X:=O (a.go r);have P:=O (I c r);clear f9 g4 b1 r c1 a c b7;have a:=X;have c:=P;go_wp2_with fail;refine(rX P5 0 120 h7 i6 a i1).mono ?_;rintro e j0 ⟨rfl,B⟩;have e6:=O (X.go B);have e1:=O (I P B);clear B;clear a c;have a:=e6;have c:=e1;go_wp2;go_ret;exact⟨rfl,c⟩
