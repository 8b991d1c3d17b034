import Derived.Test.YtgohdcccfkjooaaGreatDoorQAZ
namespace Go.Proofs.YtgohdcccfkjooaaGreatDoor
set_option maxRecDepth 100000
set_option maxHeartbeats 6400000
set_option linter.all false
open Go.Proofs.Tryz Go.RowKit
def Pp(w:World)(l:List gM)(i p v:Int)(e:Ending)(w':World):Prop:=
 (nT l i p v=false∧e= .returned (.tuple #[oN,.bool false])∧Below w.heap.size w w')∨
 (nT l i p v=true∧ ∃g c,e= .returned (.tuple #[.slice (some ⟨g,0,none⟩) l.length c,.bool true])∧oJ w.heap.size w' (.slice (some ⟨g,0,none⟩) l.length c) (qy l i p v)∧Below w.heap.size w w')
theorem Kn(s zs p v a n c w)(i:IR w.heap.size w 3 a n c zs)(g:n≤1000000)(d:a=none→c=0)(f:s.glass.size≤9223372036854775807)(h1:(mw s zs n p v==0)=false):
 Calls prog 187 #[.agg (⟨s,a,n,c⟩:jt),p,v] w (fun e w'=>e= .returned (.tuple #[.agg zS,.int .i64 (mw s zs n p v)])∧Below w.heap.size w w'):=
 (zr s zs p v a n c w i g d f).mono (by
   rintro e w' (⟨_,h,b⟩|⟨h0,_⟩)
   ·exact ⟨h,b⟩
   ·rw [h0] at h1;simp at h1)
theorem GK(s zs p v a n c w)(i:IR w.heap.size w 3 a n c zs)(g:n≤1000000)(d:a=none→c=0)(f:s.glass.size≤9223372036854775807)(h1:mw s zs n p v=0):
 Calls prog 187 #[.agg (⟨s,a,n,c⟩:jt),p,v] w (fun e w'=>∃a c,e= .returned (.tuple #[.agg #[.int .i64 (s.put p v).kind,.int .i64 (s.put p v).curv,.int .i64 (s.put p v).conic,.int .i64 (s.put p v).curvX,.int .i64 (s.put p v).conicX,.int .i64 (s.put p v).a0,.int .i64 (s.put p v).a1,.int .i64 (s.put p v).a2,.int .i64 (s.put p v).a3,.int .i64 (s.put p v).p0,.int .i64 (s.put p v).p1,.int .i64 (s.put p v).order,.int .i64 (s.put p v).thick,.string (s.put p v).glass,.int .i64 (s.put p v).semi,.int .i64 (s.put p v).hole,.int .i64 (s.put p v).dx,.int .i64 (s.put p v).dy,.int .i64 (s.put p v).ax,.int .i64 (s.put p v).ay,.int .i64 (s.put p v).az,.slice a n c],oZ])∧jN (fun b=>w.heap.size≤b∧b<w'.heap.size) w' a n c zs∧(a=none→c=0)∧Below w.heap.size w w'):=
 (zr s zs p v a n c w i g d f).mono (by
   rintro e w' (⟨h,_⟩|⟨_,h⟩)
   ·exact absurd h1 h
   ·exact h)
theorem Ko(l a n c w)(h:RR jE 22 (fun b=>b<w.heap.size) w a n c l)(j:n≤1000000)(h0:0<l.length):
 Calls prog 147 #[.slice a n c] w (fun e w'=>∃g c,e= .returned (.slice (some ⟨g,0,none⟩) l.length c)∧oJ w.heap.size w' (.slice (some ⟨g,0,none⟩) l.length c) l∧Below w.heap.size w w'):=
 (zu l a n c w h j).mono (by
   rintro e w' ⟨v,rfl,d,f⟩
   rcases d.r.form with ⟨rfl,i⟩|⟨g,cap,rfl,_⟩
   ·rw [i] at h0;simp at h0
   ·exact ⟨g,cap,rfl,d,f⟩)
theorem Kp{s zs n p v}(h0:mw s zs n p v=0)(c:s.glass.size≤9223372036854775807):(s.put p v).glass.size≤9223372036854775807:=by
 obtain ⟨_,b⟩:=vm (show nj s zs n p=0 from by
  apply bg;intro a
  unfold mw at h0;rw [aj a] at h0;exact a h0)
 obtain ⟨d,e⟩:=oM b
 rcases oL d e with rfl|rfl|rfl|rfl|rfl|rfl|rfl|rfl|rfl|rfl|rfl|rfl|rfl|rfl|rfl|rfl|rfl<;>exact c
theorem BW(l a n c)(i p v:Int)(w)(h:RR jE 22 (fun b=>b<w.heap.size) w a n c l)(hn:n≤1000000):
 Calls prog 148 #[.slice a n c,i,p,v] w (Pp w l i p v):=by
 have z:=h.1;have H:=O h;clear h
 go_enter func148,ntmps148
 cases hh:qx l i p with
 |false=>
  have d:nT l i p v=false:=by unfold nT;rw [hh];rfl
  have Hh:=O hh;have t:=O d;clear hh d
  go_wp2_with ((with_reducible refine (Ex l _ n c i p _ H.out hn).mono ?_);rintro e w2 ⟨S,f⟩;rw [Hh.out] at S;subst S;have b9:=O f;clear f)
  go_ret2;exact Or.inl ⟨t.out,rfl,b9.out⟩
 |true=>
  have c3:0≤i∧i≤(n:Int) - 1:=by
   unfold qx at hh;simp only [am] at hh;have:=hh.1.1;rw [z] at this;simpa [bt] using this
  obtain ⟨k,rfl⟩:∃k:Nat,i=(k:Int):=⟨i.toNat,by omega⟩
  have c4:k<n:=by omega
  have T:k<l.length:=by omega
  have Hh:=O hh;clear hh c3;obtain ⟨b,off,x,cs,rfl,hlt,hx,⟨a2,g,c2,rfl,hz,W,b2,b3⟩,L⟩:=H.out.at c4;have b6:=mU hz;have Hz:=O (hz.ir (fun _ h=>h));have R:=O b3;have a5:=O b2;have J:=O L;have Hx:=O hx;have a6:=O b6;have HL:=O z;clear hz b3 b2 L hx b6
  go_upto_region 3 with ((with_reducible refine (Ex l _ n c k p _ H.out hn).mono ?_);rintro e w2 ⟨S,f⟩;rw [Hh.out] at S;subst S;have C:=O f;clear f)
  have a4:mw x.s x.zs g p v=0∨(mw x.s x.zs g p v==0)=false:=by
   by_cases h:mw x.s x.zs g p v=0
   ·exact Or.inl h
   ·exact Or.inr (by simpa using h)
  rcases a4 with h0|h1
  ·have d:nT l k p v=true:=by unfold nT;rw [Hh.out,aI,Hx.out];simp only;rw [← a6.out];simp [h0]
   have u:qy l k p v=l.set k ⟨x.s.put p v,x.zs⟩:=by unfold qy;rw [aI,Hx.out];simp [d]
   have H0:=O h0;have t:=O d;have N:=O u;clear h0 d u z;have c0:=O (Kp H0.out R.out)
   go_upto_region 4 with (first
    |(refine lw (jb J.out (gE C.out) hlt) rfl (.tmp 21) rfl rfl ?_)
    |((with_reducible refine (GK x.s x.zs p v a2 g c2 _ (Hz.out.go C.out) W a5.out R.out H0.out).mono ?_);rintro e w3 ⟨a',c',rfl,hi,b1,B⟩;have Hi:=O hi;have c7:=O b1;have F:=O B;clear hi b1 B)
    |(refine lC (x.s.put p v) a' g c' _ rfl rfl (.tmp 10) (.tmp 26) rfl rfl rfl ?_))
   have K:=gY (o:= .cells #[.int .i64 (x.s.put p v).kind,.int .i64 (x.s.put p v).curv,.int .i64 (x.s.put p v).conic,.int .i64 (x.s.put p v).curvX,.int .i64 (x.s.put p v).conicX,.int .i64 (x.s.put p v).a0,.int .i64 (x.s.put p v).a1,.int .i64 (x.s.put p v).a2,.int .i64 (x.s.put p v).a3,.int .i64 (x.s.put p v).p0,.int .i64 (x.s.put p v).p1,.int .i64 (x.s.put p v).order,.int .i64 (x.s.put p v).thick,.string (x.s.put p v).glass,.int .i64 (x.s.put p v).semi,.int .i64 (x.s.put p v).hole,.int .i64 (x.s.put p v).dx,.int .i64 (x.s.put p v).dy,.int .i64 (x.s.put p v).ax,.int .i64 (x.s.put p v).ay,.int .i64 (x.s.put p v).az,.slice a' g c'] 70) (TH w3.heap.size w3);refine gI (fun E=>Y E w3.heap.size (x.s.put p v) a' g c'∧Below w.heap.size w E∧jN (fun b=>w.heap.size≤b∧b<E.heap.size) E a' g c' x.zs) ⟨Y.new w3 (x.s.put p v) a' g c',I C.out (I F.out K),Hi.out.kept ((gE K).mono (fun b f=>f.2)) (fun b f=>⟨af C.out.size f.1,ab f.2 K.size⟩)⟩ ?_;clear K F Hi;rintro w4 ⟨hs,a9,hi⟩;have c6:=hs.lt;have Hs:=O hs;have Q:=O a9;have Hi:=O hi;clear hs a9 hi
   go_upto_region 7 with ((with_reducible refine (Ko l _ n c _ (H.out.go iD Q.out) hn (cX (aA k) T)).mono ?_);rintro e w5 ⟨P,c5,rfl,ho,b0⟩;have Ho:=O ho;have A:=O b0;clear ho b0)
   have c8:w4.heap.size≤P:=by
    rcases Ho.out.r.form with ⟨e,_⟩|⟨g',_,e,q,_⟩
    ·cases e
    ·cases e;exact q
   obtain ⟨lq,U,D,a8,M⟩:=Ho.out
   have b5:k<lq.length:=by rw [← mD,U];exact T
   have X:=Q.out.size;have b8:rL (fun b=>w.heap.size≤b∧b<w5.heap.size∧b≠P) w5 ⟨⟨x.s.put p v,x.zs⟩,w.heap.size,w4.heap.size⟩ (gX (x.s.put p v) a' g c'):=⟨a',g,c',rfl,Hi.out.kept ((gE A.out).mono (fun b f=>f.2)) (fun b f=>⟨⟨f.1,ab f.2 A.out.size,by have:=f.2;omega⟩,f⟩),W,c0.out⟩
   have b7:oJ w.heap.size (w5.setCells P (k*22) (gX (x.s.put p v) a' g c')) (.slice (some ⟨P,0,none⟩) l.length c5) (l.set k ⟨x.s.put p v,x.zs⟩):=
    ⟨_,by rw [El,U],(D.down jX X).set jX b5 b8,a8.set (fun j y hy _=>Or.inr (M y (aL hy)).1),(fun q D=>by
      rw [im]
      rcases bH D with D|rfl
      ·exact ⟨af X (M q D).1,(M q D).2⟩
      ·exact ⟨aa _,X,A.out.size⟩)⟩
   have a7:=O b7;clear b7 b8 U D a8 M b5
   go_wp2_with (first
    |(refine gO (Hs.out.go A.out c6) rfl (.tmp 10) rfl rfl ?_)
    |(refine pX (x.s.put p v) a' g c' (Ho.out.r.there T) rfl _ _ rfl rfl rfl ?_;refine jJ (fun E=>oJ w.heap.size E (.slice (some ⟨P,0,none⟩) l.length c5) (l.set k ⟨x.s.put p v,x.zs⟩)∧Below w.heap.size w E) ⟨a7.out,ig (by omega) _ _ (I Q.out A.out)⟩ ?_;clear Hs Ho a7;rintro w6 ⟨h6,b4⟩;have H6:=O h6;have c1:=O b4;clear h6 b4))
   go_ret2;exact Or.inr ⟨t.out,P,c5,rfl,by rw [N.out];exact H6.out,c1.out⟩
  ·have d:nT l k p v=false:=by unfold nT;rw [aI,Hx.out];simp only;rw [← a6.out];simp at h1;simp [h1]
   have t:=O d;clear d
   go_wp2_with (first
    |(refine lw (jb J.out (gE C.out) hlt) rfl (.tmp 21) rfl rfl ?_)
    |((with_reducible refine (Kn x.s x.zs p v a2 g c2 _ (Hz.out.go C.out) W a5.out R.out h1).mono ?_);rintro e w3 ⟨rfl,B⟩;have F:=O B;clear B;generalize mw x.s x.zs g p v=m at*)
    |(refine lC ⟨0,0,0,0,0,0,0,0,0,0,0,0,0,ik,0,0,0,0,0,0,0⟩ none 0 0 _ rfl rfl (.tmp 10) (.tmp 26) rfl rfl rfl ?_))
   go_ret2;exact Or.inl ⟨t.out,rfl,I C.out (gY F.out)⟩
def jD.sl{α R k T base w}{v:Value}{l:List α}(h:jD R k T base w v l):∃a c,v=.slice a l.length c/\(a=none->c=0):=by
 obtain ⟨rfl,rfl⟩|⟨g,cap,rfl,_⟩:=h.form
 .exact⟨none,0,rfl,fun _=>rfl⟩
 .exact⟨_,cap,rfl,fun e=>by cases e⟩
def zx{l zs}:∀{n:Nat}{l':List gM},tu l zs n=some l'->l'.length=l.length:=by
 intro n
 induction n with
 |zero=>intro l' h;cases h;rfl
 |succ n a=>
  intro l' h;rw[tu]at h
  cases hc:tu l zs n with
  |none=>rw[hc]at h;cases h
  |some m=>
   rw[hc]at h;simp only[aO]at h;split at h
   .cases h
    rw[xP];exact a hc
   .cases h
def Pq(w:World)(l:List gM)(zs:List Int)(n:Nat)(e:Ending)(w':World):Prop:=
 (tu l zs n=none/\e=.returned (.tuple #[oN,false])/\Below w w w')\/
 (∃l' v,tu l zs n=some l'/\e=.returned (.tuple #[v,.bool (decide (n<=12))])/\oJ w w' v l'/\Below w w w')
def MQ(l a n c i p v w)(h:RR jE 22 (fun b=>b<w.heap.size) w a n c l)(f:n<=1000000)(h0:nT l i p v=false):
 Calls prog 148 #[Z a n c,i,p,v] w (fun e w'=>e=.returned (.tuple #[oN,false])/\Below w w w'):=
 (BW l a n c i p v w h f).mono (by
   rintro e w' (⟨_,h,d⟩|⟨h1,_⟩)
   .exact⟨h,d⟩
   .rw[h0]at h1;cases h1)
def Kq(l a n c i p v w)(h:RR jE 22 (fun b=>b<w.heap.size) w a n c l)(d:n<=1000000)(h0:nT l i p v=true):
 Calls prog 148 #[Z a n c,i,p,v] w (fun e w'=>∃g c,e=.returned (.tuple #[Z (J g) l.length c,true])/\oJ w w' (.slice (J g) l.length c) (qy l i p v)/\Below w w w'):=
 (BW l a n c i p v w h d).mono (by
   rintro e w' (⟨h1,_⟩|⟨_,h⟩)
   .rw[h0]at h1;cases h1
   .exact h)
def wW(l zs a b m d n c w)(h:RR jE 22 (fun b=>b<w.heap.size) w a m d l)(hm:m<=1000000)(hz:IR w w 3 b n c zs)(hn:n<=1000000):
 Calls prog 106 #[Z a m d,Z b n c] w (Pq w l zs n):=by
 have H:=O h;have Hz:=O hz;have B:=h.1;have a9:=hz.2.1;clear h hz
 go_enter func106,ntmps106
 go_wp2_with((with_reducible refine(zu l a m d _ H.out hm).mono ?_);rintro e w1 ⟨v1,rfl,x,K⟩;have Ho:=O x;have Hb:=O K;clear x K)
 go_loopw [6,7] (fun v y wr=>∃k l',k<=n/\y=.int .i64 (k:Int)/\tu l zs k=some l'/\oJ w wr v l'/\Below w w wr) (fun _ y _=>n-(intOf y).toNat)
 case atStart=>exact⟨0,l,by omega,rfl,rfl,Ho,Hb⟩
 case round=>
  obtain⟨k,l',hk,rfl,L,x,K⟩:=hrel;obtain⟨sa,sc,rfl,-⟩:=x.r.sl;have W:=zx L;rw[W,B]at x⊢;have S:=O L;have F:=O x;have q:=O K;clear L x K
  by_cases a6:k<n
  .have N:=Hz.go q
   have a3:=O N;obtain⟨b1,off,rfl,hlt,x0,x1,x2⟩:=N.at3 a6;clear N
   have X:tu l zs (k+1)=if oK zs k (zs.getD (k*3) 0) (zs.getD (k*3+1) 0)=false/\nT l' (zs.getD (k*3) 0) (zs.getD (k*3+1) 0) (zs.getD (k*3+2) 0)=true then some (qy l' (zs.getD (k*3) 0) (zs.getD (k*3+1) 0) (zs.getD (k*3+2) 0))else none:=by
    rw[tu,S];rfl
   have E:=O X;clear X;generalize zs.getD (k*3) 0=s0 at*;generalize zs.getD (k*3+1) 0=p0 at*;generalize zs.getD (k*3+2) 0=v0 at*
   have T:∀j,j<k->zs.getD (j*3) 0=s0/\zs.getD (j*3+1) 0=p0->tu l zs n=none:=by
    rintro j hj ⟨h1,h2⟩;refine vU (k:=k+1) ?_ (by omega);rw[E,aj];rw[show oK zs k s0 p0=true from lM (f:=fun k=>(zs.getD (k*3) 0==s0)&& (zs.getD (k*3+1) 0==p0)) hj (by simp only[h1,h2];simp)];simp
   have a0:=O T;clear T;have u:Below wr wr (wr.alloc (.cells #[s0,p0,v0] 72)):=(TH _ _).alloc (aa _) _;have p:=TL wr (.cells #[s0,p0,v0] 72);have i:=O u;have z:=O p;clear u p;obtain⟨P,rfl⟩:∃P:World,P=wr:=⟨_,rfl⟩
   go_wp2_with fail
   clear x0 x1 x2
   go_loopw [9] (fun y wq=>∃j:Nat,j<=k/\y=.int .i64 (j:Int)/\(List.range j).any (fun k=>(zs.getD (k*3) 0==s0)&& (zs.getD (k*3+1) 0==p0))=false/\wq.heap[P.heap.size]? =some (.cells #[s0,p0,v0] 72 (0,0))/\Below P P wq) (fun y _=>k-(intOf y).toNat)
   case atStart=>exact⟨0,by omega,rfl,rfl,z,i⟩
   case round=>
    clear z i;obtain⟨j,hj,rfl,hd,p,u⟩:=hrel;have a8:=TK p;obtain⟨q0,q1,q2⟩:=kE p;have Hd:=O hd;have z:=O p;have i:=O u;clear hd p u
    by_cases a5:j<k
    .obtain⟨b2,o2,e2,a7,z0,z1,z2⟩:=(a3.go i).at3 (k:=j) (by omega)
     cases e2
     have C:((zs.getD (j*3) 0==s0)&& (zs.getD (j*3+1) 0==p0))=false->(List.range (j+1)).any (fun k=>(zs.getD (k*3) 0==s0)&& (zs.getD (k*3+1) 0==p0))=false:=fun e=>(lL (f:=fun k=>(zs.getD (k*3) 0==s0)&& (zs.getD (k*3+1) 0==p0)) Hd).trans e
     have o:=a0 j a5;clear z2;generalize zs.getD (j*3) 0=r0 at z0 C o;generalize zs.getD (j*3+1) 0=r1 at z1 C o;have a1:=O C;have R:=O o;clear C o q2;cases w0:(r0==s0) <;>cases w1:(r1==p0)
     all_goals
      go_wp2_with fail
      go_quiet (fail)
      go_wp2_with fail
     iterate 3
      .go_roundw
       case rel=>exact⟨j+1,by omega,by go_num,a1 (by rw[w0,w1];rfl),by rw[World.heap_drewN];exact z,gV i _⟩
       case measure=>simp[intOf];omega
     .go_ret2
      exact Or.inl ⟨R ⟨by simpa using w0,by simpa using w1⟩,rfl,I q (gV i _)⟩
    .obtain rfl:j=k:=by omega
     have A:oK zs j s0 p0=false:=Hd.out;have Q:=O A;clear A;cases hpu:nT l' s0 p0 v0
     .have s:=O hpu;clear hpu
      go_wp2_with((with_reducible refine(MQ l' sa m sc s0 p0 v0 _ ((F.out.r.rr iD).go iD i.out) hm s.out).mono ?_);rintro e w3 ⟨rfl,t⟩;have D:=O t;clear t)
      go_ret2;refine Or.inl ⟨vU (k:=j+1) ?_ (by omega),rfl,I q (I i D)⟩;rw[E,aj (by rw[s];simp)]
     .have s:=O hpu;clear hpu
      go_wp2_with((with_reducible refine(Kq l' sa m sc s0 p0 v0 _ ((F.out.r.rr iD).go iD i.out) hm s.out).mono ?_);rintro e w3 ⟨g,c3,rfl,M,t⟩;have D:=O t;rw[W,B]at M;have a2:=O (M.down (af q.size i.size));clear t M)
      go_roundw
      case rel=>exact⟨j+1,qy l' s0 p0 v0,by omega,by go_num,by rw[E,aq ⟨Q,s⟩],a2,I q (I i D)⟩
      case measure=>simp[intOf];omega
  .obtain rfl:k=n:=by omega
   by_cases a4:k<=12
   all_goals
    go_wp2;go_ret2;exact Or.inr ⟨l',_,S,by simp[a4] <;>omega,F,q⟩
def oJ.keep{base w w' v l}(h:oJ base w v l)(e:gN (fun b=>base<=b/\b<w.heap.size) w w')(d:w.heap.size<=w'.heap.size):oJ base w' v l:=by
 obtain⟨f,h1,h2,h3,a⟩:=h;exact⟨f,h1,h2.keep jX e d,h3,fun q c=>⟨(a q c).1,(a q c).2.1,af (a q c).2.2 d⟩⟩
def mj.bare{D:Nat->Prop}{w x f v s k}(h:mj D w x f v s k):mj D w {x with cf:=[]} f v s ⟨none,0,0⟩:=by
 obtain⟨c,lo,hi,h1,h2,h3,a,h5,b,d⟩:=h.q;exact⟨⟨h.at'.fs,h.at'.ws,h.at'.l,RR.nil _ _ _ _ _ _,h.at'.fn,h.at'.wn,h.at'.sn,by show 0<=1000000;omega,h.at'.fc,h.at'.wc,h.at'.nm⟩,c,lo,hi,h1,h2,h3,a,h5,b,RR.nil _ _ _ _ _ _⟩
def mj.newl{D E:Nat->Prop}{w x f v s k}(h:iP D w x f v s k){base}(i:∀b,D b->b<base){a n c l}(j:oJ base w (.slice a n c) l)(o:n<=1000000)(e:∀b,D b->E b)(g:∀b,base<=b->b<w.heap.size->E b):mj E w {x with l:=l,cf:=[]} f v ⟨a,n,c⟩ ⟨none,0,0⟩:=by
 obtain⟨p,h1,h2,h3,m⟩:=id j;refine⟨⟨h.fs.kept (gN.refl _ _) e,h.ws.kept (gN.refl _ _) e,(jD.rr2 iD j.r).kept iD (gN.refl _ _) (fun b d=>g b d.1 d.2),RR.nil _ _ _ _ _ _,h.fn,h.wn,o,by show 0<=1000000;omega,h.fc,h.wc,h.nm⟩,p,base,w.heap.size,h1,(h2.rro jX).kept (BT jX _) (gN.refl _ _) (fun b d=>g b d.1 d.2),h3,m,?_,?_,RR.nil _ _ _ _ _ _⟩
 .exact h.fs.kept (gN.refl _ _) (fun b d=>⟨e b d,Or.inl (i b d)⟩)
 .exact h.ws.kept (gN.refl _ _) (fun b d=>⟨e b d,Or.inl (i b d)⟩)
def Ey{α:Type}(R:pB α)(k:Nat)(T:TypeId)(S:Nat->Prop)(w:World)(v:Value)(l:List α):Prop:=
 ∃css:List (List Value),css.length=l.length/\(∀c∈css,c.length=k)/\w.ownsRow 0 T k v l.length css.flatten/\ ∀(i:Nat)(x:α)(cs:List Value),l[i]? =some x->css[i]? =some cs->R S w x cs
def A8{α:Type}(R:pB α)(k:Nat)(T:TypeId)(S:Nat->Prop)(e:Nat)(w:World)(v:Value)(l:List α):Prop:=
 ∃css:List (List Value),css.length=l.length/\(∀c∈css,c.length=k)/\w.ownsRow 0 T k v l.length css.flatten/\ ∀(i:Nat)(x:α)(cs:List Value),i≠e->l[i]? =some x->css[i]? =some cs->R S w x cs
def A8.keep{α R k}(ok:kR k R){T}{S a:Nat->Prop}{e w w'}{v:Value}{l:List α}(h:A8 R k T S e w v l)(d:gN (fun b=>S b\/v.ownBlock=some b) w w')(n:∀b,S b->a b):A8 R k T a e w' v l:=by
 obtain⟨css,h1,h2,h3,f⟩:=h;refine⟨css,h1,h2,?_,fun i x cs m o j=>ok.kept (f i x cs m o j) (d.mono (fun b h=>Or.inl h)) n⟩;obtain⟨l,r⟩:=h3;refine⟨l,r.imp id ?_⟩;rintro⟨g,cap,c,e,p,q,s⟩;exact⟨g,cap,c,e,p,(d g (Or.inr (by rw[e];rfl))).trans q,s⟩
def A8.there{α R k T}{S:Nat->Prop}{e w}{g n c:Nat}{l:List α}(h:A8 R k T S e w (.slice (J g) n c) l){i:Nat}(hi:i<l.length):w.there g (i*k) k:=by
 obtain⟨css,h1,h2,h3,b⟩:=h;have a:jD (fun _ _ (_:α) _=>True) k T 0 w (.slice (J g) n c) l:=⟨css,h1,h2,h3,fun _ _ _ _ _=>trivial⟩;exact a.there hi
def Ey.form{α R k T}{S:Nat->Prop}{w v}{l:List α}(h:Ey R k T S w v l)(h0:0<l.length):∃g cap,v=.slice (J g) l.length cap/\g<w.heap.size/\l.length<=cap:=by
 obtain⟨css,h1,h2,h3,d⟩:=h
 obtain ⟨e,e0⟩|⟨g,cap,c,e,f,a,b,_⟩:=h3.2
 .omega
 .exact⟨g,cap,e,TK a,b⟩
def Ey.rr{α R k}(ok:kR k R){T}{S d:Nat->Prop}{w g n c}{l:List α}(h:Ey R k T S w (.slice (J g) n c) l)(s:∀b,S b->d b)(q:d g):RR R k d w (J g) n c l:=by
 obtain⟨css,h1,h2,h3,p⟩:=h
 obtain ⟨e,_⟩|⟨y,cap,u,e,A,B,t,C,D,E⟩:=h3.2
 .cases e
 .cases e
  refine⟨rfl,t,fun z=>⟨g,0,rfl,q,fun i x o=>?_⟩⟩;have hi:i<l.length:=(TG.1 o).1;have a:css[i]? =some css[i]:=ae (by omega);refine⟨css[i],ok.kept (p i x _ o a) (gN.refl _ _) s,fun j v m=>?_⟩
  have r:j<k:=by
   have:=(TG.1 m).1;rw[h2 css[i] (cW _)]at this;exact this
  have f:=h3.cells (g:=g) rfl (i*k+j) v (by rw[mC css i _ j h2 a r];exact m);rw[Addr.add_mid,<- cN]at f;exact f
def A8.set{α R k}(ok:kR k R){T}{S:Nat->Prop}{w g n c}{l:List α}{i:Nat}(h:A8 R k T S i w (.slice (J g) n c) l)(C:¬S g)(hi:i<l.length){x:α}{cs:List Value}(u:R S w x cs):
 Ey R k T S (w.setCells g (i*k) cs) (.slice (J g) n c) (l.set i x):=by
 obtain⟨css,h1,h2,h3,A⟩:=h;have a:=ok.len u;have q:gN S w (w.setCells g (i*k) cs):=(gK g cs (i*k) w).mono (fun b h e=>C (e▸h));refine⟨css.set i cs,by simp[h1],?_,?_,?_⟩
 .intro d f
  obtain f|rfl:=bH f
  .exact h2 d f
  .exact a
 .rw[dL]
  obtain ⟨e,_⟩|⟨L,cap,p,e,D,E,v,F,H,K⟩:=h3.2
  .cases e
  .cases e
   have m:=cm k (show i+1<=l.length from hi);rw[df]at m;have r:=cm k v
   have t:(css.set i cs).flatten.length=l.length*k:=by
    rw[lK (k:=k) _ (fun d f=>by
     obtain f|rfl:=bH f
     .exact h2 d f
     .exact a),dL,h1]
   refine⟨t,Or.inr ⟨g,c,_,rfl,D,tH E (i*k) cs (by rw[a,H];omega),v,F,?_,?_⟩⟩
   .simp[a];omega
   .have B:(p.toList.take (i*k)).length=i*k:=by rw[bn,cD (by simp;omega)]
    have s:(p.toList.take (i*k)++cs).length=i*k+k:=by rw[al,B,a]
    rw[tG css i cs h2 (by omega) a,<- K,fH,aM (by rw[s];exact m),s,List.take_take,cD (by omega),List.drop_take,a]
 .intro j y ds o f
  rw[cF]at o f
  by_cases e:i=j
  .subst e
   rw[aq rfl,aq (by omega)]at o f;cases o;cases f;exact ok.kept u q (fun b h=>h)
  .rw[aj e]at o f
   exact ok.kept (A j y ds (fun z=>e z.symm) o f) q (fun b h=>h)
def GL{w:World}{gl T}{cs:List Value}(h:w.heap[gl]? =some (.cells cs.toArray T (0,0))):∀j u,cs[j]? =some u->w.cell? ((⟨gl,0,none⟩:Addr).add j)=some u:=
 World.news_of_block (cs:=cs.toArray) (t:=T) (fr:=(0,0)) h
def Ba{g a n n' c c' w w'}(h:(Result.ok (Value.slice (J g) n c) w:Result Value)=.ok (Value.slice (J a) n' c') w'):g=a:=by cases h;rfl
def Bb{α v a w w'}(h:(Result.ok v w:Result α)=.ok a w'):w=w':=by cases h;rfl
def vq{ops D o a}{Q:Exit->Act->World->Prop}{w α}{R:pB α}{k:Nat}(ok:kR k R){T K:TypeId}{z:Value}{p:Nat}(a7:prog.underlying K=some (.slice T))(hT:(prog.info? T).map (fun i=>(i.zero,i.size,i.bytes))=some (some z,k,p))(hz:z.cells.size=k)(hk:0<k)(a8:p<=10000)(b0:o.guard=none)(s x:Operand)(ho:o.op=.call {callee:=.builtin .append,args:=#[s,x],argTypes:=#[K,K]}){e0:Nat}(hs:a.eval s=.slice (J e0) 0 0)(he:w.heap[e0]? =some (.cells #[] T (0,0))){S:Nat->Prop}{ra:Option Addr}{n c:Nat}{l:List α}(f:a.eval x=.slice ra n c)(hr:RR R k S w ra n c l)(hn0:0<n)(hn:n<=1000000)(hS:∀b,S b->b<e0)(h:∀B w',Ey R k T S w' B l->w.grownBy w' (some e0)->(∀b,B.ownBlock=some b->e0<=b/\b<w'.heap.size)->(∀b off g,ra=some ⟨b,off,none⟩->B.ownBlock=some g-> ∀i cs,i<n->cs.length=k->w.rangeAt b (off+i*k) cs->w'.rangeAt g (i*k) cs)->wpList prog ops Q D (a.put o.dst B) w'):wpList prog ops Q (o::D) a w:=by
 obtain⟨b,off,e,E,r⟩:=hr.2.2 hn0;have C:=hr.1
 have a9:∀i:Nat,i<l.length-> ∃cs,∀x,l[i]? =some x->R S w x cs/\w.rangeAt b (off+i*k) cs:=by
  intro i hi;obtain⟨cs,h1,h2⟩:=r i l[i] (ae hi);exact⟨cs,fun x f=>by rw[ae hi]at f;cases f;exact⟨h1,h2⟩⟩
 obtain⟨css,a1,t⟩:∃css:List (List Value),css.length=l.length/\ ∀(i:Nat)(x:α)(cs:List Value),l[i]? =some x->css[i]? =some cs->R S w x cs/\w.rangeAt b (off+i*k) cs:=by
  have:∀m,m<=l.length-> ∃css:List (List Value),css.length=m/\ ∀(i:Nat)(x:α)(cs:List Value),l[i]? =some x->css[i]? =some cs->R S w x cs/\w.rangeAt b (off+i*k) cs:=by
   intro m
   induction m with
   |zero=>exact fun _=>⟨[],rfl,fun i x cs _ r=>by simp at r⟩
   |succ m ih=>
    intro hm;obtain⟨css,h1,h2⟩:=ih (by omega);obtain⟨cs,h3⟩:=a9 m (by omega);refine⟨css++[cs],by simp[h1],fun i x ds f q=>?_⟩;rw[List.getElem?_append]at q;split at q
    .exact h2 i x ds f q
    .have:i=m:=by
      have:=(TG.1 q).1;simp at this;omega
     subst this;simp[h1]at q;subst q;exact h3 x f
  exact this l.length (aa _)
 have y:∀d∈css,d.length=k:=by
  intro d q;obtain⟨i,hi,rfl⟩:=dJ q;obtain⟨x,f⟩:∃x,l[i]? =some x:=⟨_,ae (by omega)⟩;exact ok.len (t i x _ f (ae hi)).1
 have a3:=lK (k:=k) css y;have hlt:=TK he;have N:w.ownsRow e0 T k (.slice (J e0) 0 0) 0 []:=⟨by simp,Or.inr ⟨e0,0,#[],rfl,aa _,he,aa _,by unfold maxLen;omega,by simp,by simp⟩⟩
 have M:∀u∈css.flatten,u.oneCell'=true:=by
  intro u P;obtain⟨d,q,b5⟩:=eP.1 P;obtain⟨i,hi,rfl⟩:=dJ q;obtain⟨x,f⟩:∃x,l[i]? =some x:=⟨_,ae (by omega)⟩;exact ok.one (t i x _ f (ae hi)).1 u b5
 refine mS b0 s x K ho e0 T z k p a7 hT hz hk _ 0 [] hs N ra n c css.flatten f (by rw[a3,a1,C]) ?_ M (fun A=>by rw[e]at A;cases A) (by rw[aV];exact af (cB hn a8) (by omega)) (by omega) (cE hlt) ?_
 .intro _
  refine⟨b,off,e,fun j u hj=>?_⟩
  have b1:j<css.length*k:=by rw[<- a3];exact(TG.1 hj).1
  have v:j/k<css.length:=eb (by rw[cd];exact b1);obtain⟨x,f⟩:∃x,l[j/k]? =some x:=⟨_,ae (by omega)⟩;have X:=ae v
  have h5:=(t (j/k) x _ f X).2 (j%k) u (by
   rw[<- mC css (j/k) _ (j%k) y X (cx _ hk),cd (j/k) k,dc];exact hj)
  rw[show off+j=off+j/k*k+j%k by rw[cd (j/k) k,cN,dc]];exact h5
 .intro B w' h1 h2
  rw[aV,bD]at h1
  have a6:w'.ownsRow 0 T k B l.length css.flatten:=by
   rw[C];exact⟨h1.1,h1.2.imp id fun⟨g,cap,W,e,q1,q2⟩=>⟨g,cap,W,e,aA _,q2⟩⟩
  refine h B w' ⟨css,a1,y,a6,fun i x cs f r=>ok.kept (t i x cs f r).1 ((nW h2).mono (fun b E=>⟨Nat.lt_trans (hS b E) hlt,fun A=>?_⟩)) (fun b h=>h)⟩ h2 (fun b E=>h1.lt b E) ?_;rotate_left
  .intro b2 b6 g A F i cs hi L b3 j u P
   rw[e]at A;cases A
   have v:j<k:=by rw[<- L];exact(TG.1 P).1
   obtain⟨x,f⟩:∃x,l[i]? =some x:=⟨_,ae (by omega)⟩;have a0:css[i]? =some css[i]:=ae (by omega);have a2:css[i].length=k:=y _ (cW _);obtain⟨H,a5⟩:∃H,css[i][j]? =some H:=⟨css[i][j]'(by rw[a2];exact v),ae (by rw[a2];exact v)⟩;have b4:=(t i x _ f a0).2 j H a5;have a4:=b3 j u P
   have e4:H=u:=by rw[b4]at a4;exact aE a4
   subst e4
   obtain ⟨e5,_⟩|⟨g',cap,W,e5,_⟩:=h1.2
   .rw[e5]at F;cases F
   .subst e5
    have e6:g'=g:=by simpa[Value.ownBlock]using F
    subst e6;have r:=h1.cells (g:=g') rfl (i*k+j) H (by rw[mC css i _ j y a0 v];exact a5);rw[Addr.add_mid,aV]at r;exact r
  have e3:e0=b:=by simpa[Value.ownBlock]using A
  have:=hS b E;omega
def vt{ops k o a}{Q:Exit->Act->World->Prop}{w}(L:o.guard=none)(s x)(W:o.op=.call {callee:=.builtin .append,args:=#[s,x],argTypes:=#[68,68]}){S:Nat->Prop}{fa n c xs}(q0 q1 q2:Int){gl}(hs:a.eval s=.slice fa n c)(hown:jN S w fa n c xs)(hx:a.eval x=.slice (J gl) 1 1)(hg:w.heap[gl]? =some (.cells #[q0,q1,q2] 67 (0,0)))(hlen:n<=10000000)(hS:∀b,S b->b<w.heap.size)(h:∀A c' w',jN (fun b=>S b\/(w.heap.size<=b/\b<w'.heap.size)) w' A (n+1) c' (xs++[q0,q1,q2])->gN (fun b=>b<w.heap.size/\ ¬S b) w w'->(∀g,(Value.slice fa n c).ownBlock=some g-> ∀j,j<n*3->w'.cell? ⟨g,j,none⟩=w.cell? ⟨g,j,none⟩)->w.grownBy w' (Value.slice fa n c).ownBlock->wpList prog ops Q k (a.put o.dst (.slice A (n+1) c')) w'):
 wpList prog ops Q (o::k) a w:=by
 obtain⟨i,r,B,d,C⟩:=sd Tryz.infoFilm3;have t:=GL (cs:=[.int .i64 q0,.int .i64 q1,.int .i64 q2]) hg
 obtain⟨D,v,w',E,h2,h3,q,h5⟩:=run_append_lies (P:=prog) w 68 o.type 0 67 i _ 3 24 underlying68 r B d C rfl (by omega) _ n _ hown.1
  (J gl) 1 1 [q0,q1,q2] rfl t (by simp[Value.oneCell']) (by omega) (by unfold maxLen;omega) (by omega) (aA _) _ rfl
 have l:∀g,(Value.slice fa n c).ownBlock=some g-> ∀j,j<n*3->w'.cell? ⟨g,j,none⟩=w.cell? ⟨g,j,none⟩:=by
  intro g f j N
  obtain ⟨e,_⟩|⟨g2,cap,F,e,_,z,_,_,H,_⟩:=hown.1.2
  .rw[e]at f;cases f
  .rw[e]at f
   have R:g2=g:=by simpa[Value.ownBlock]using f
   subst R;cases e
   by_cases m:n+1<=c
   .have u:=run_append_room (P:=prog) w 68 o.type 67 i underlying68 r g2 n c F z (J gl) 1 1 [q0,q1,q2] (by rw[d];rfl) t (by simp[Value.oneCell']) m (by rw[d,H];simp;omega)
    obtain rfl:=Ba (E.symm.trans u);have a1:=World.ownsRow.cellAt h2 j (by omega);have a2:=World.ownsRow.cellAt hown.1 j N;rw[a1,a2,aF (by rw[hown.1.1];exact N)]
   .obtain⟨X,a0,u,_,M⟩:=run_append_arg_grows (P:=prog) w 68 o.type 67 i _ 3 24 underlying68 r B d C rfl (by omega) (J g2) n c (xs.map (Value.int .i64)) hown.1.1 (World.ownsRow.cells hown.1 rfl)
     (J gl) 1 1 [q0,q1,q2] rfl t (by omega) (by unfold maxLen;omega) (by omega)
    obtain rfl:=Bb (E.symm.trans u);have hlt:=(hown.1.lt g2 rfl).2;exact(nW M).cell (p:=⟨g2,j,none⟩) ⟨hlt,by simp⟩
 refine eT L fun K T=>?_
 unfold Oper.wp;simp[execOp,W,resolve,invoke,builtin,hs,hx,E,Result.andThen];refine T _ _ (h (J D) v w' ⟨by rw[aT];exact h2,fun b y=>?_⟩ ?_ l h3)
 .have e:D=b:=by simpa[Value.ownBlock]using y
  subst e
  obtain q|q:=q
  .exact Or.inl (hown.2 D q)
  .exact Or.inr ⟨Nat.le_of_eq q.symm,h5⟩
 .exact(nW h3).mono (fun b y=>⟨y.1,fun e=>y.2 (hown.2 b e)⟩)
def wX(D:Nat->Prop)(a:Option Addr)(n c:Nat):Nat->Prop:=fun b=>D b/\(Value.slice a n c).ownBlock≠some b
structure yC (D:Nat->Prop) (w:World) (y:gR) (f v s k:iJ) (lq:List jT) (kk:Nat) (q:jT) (a:Option Addr) (n c b off:Nat):Prop where
 eq:qt lq=y.l
 rr:RR (Sh rL (Value.slice s.a s.n s.c).ownBlock) 22 D w s.a s.n s.c lq
 ap:qu lq
 at':lq[kk]? =some q
 sa:s.a=some ⟨b,off,none⟩
 row:w.rangeAt b (off+kk*22) (gX q.y.s a n c)
 db:D b
 film:jN (fun b=>(D b/\(Value.slice s.a s.n s.c).ownBlock≠some b)/\q.lo<=b/\b<q.hi) w a n c q.y.zs
 gl:q.y.s.glass.size<=9223372036854775807
 cn:n<=1000000
 fs:IRp (wX D a n c) w 2 f.a f.n f.c y.fs
 ws:IRp (wX D a n c) w 2 v.a v.n v.c y.ws
 cf:RR oB 2 (wX D a n c) w k.a k.n k.c y.cf
def mj.pick{D:Nat->Prop}{w y f v s k}(h:mj D w y f v s k){l}(u:l<s.n):∃i q a n c b off,yC D w y f v s k i l q a n c b off:=by
 obtain⟨i,lo,hi,h1,h2,h3,o,h5,p,r⟩:=h.q;obtain⟨b,off,q,cs,e,g,j,⟨a,n,c,rfl,hf,x,t⟩,z⟩:=h2.at u;have A:=o q (aL j)
 have d:∀b,D b/\(b<lo\/hi<=b)->wX D a n c b:=fun b g=>⟨g.1,fun m=>by
  have:=(hf.2 b m).2
  obtain h|h:=g.2<;>omega⟩
 exact⟨i,q,a,n,c,b,off,h1,h2,h3,j,e,z,g,hf,t,x,h5.kept (gN.refl _ _) d,p.kept (gN.refl _ _) d,r.kept ky (gN.refl _ _) d⟩
def yC.other{D:Nat->Prop}{w y f v s k j g q a n c b off}(h:yC D w y f v s k j g q a n c b off){i x w' cs}(hi:i≠g)(r:j[i]? =some x)(p:Sh rL (Value.slice s.a s.n s.c).ownBlock D w' x cs):jE (wX D a n c) w' x.y cs:=by
 obtain⟨a',n',c',e,hf,o,m⟩:=p;refine⟨a',n',c',e,hf.irp.kept (gN.refl _ _) (fun b d=>⟨d.1.1,fun l=>?_⟩),o,hf.none,m⟩;have h1:=(h.film.2 b l).2
 obtain h2|h2:=h.ap i g x q r h.at' hi
 .have:=d.2;omega
 .have:=d.2;omega
def yC.rowY{D:Nat->Prop}{w w' y f v s k g e q a n c b off}(h:yC D w y f v s k g e q a n c b off){T u}(o:Ey (Sh rL (Value.slice s.a s.n s.c).ownBlock) 22 T D w' u g):A8 jE 22 T (wX D a n c) e w' u y.l:=by
 obtain⟨css,h1,h2,h3,j⟩:=o;rw[<- h.eq];refine⟨css,by rw[mD];exact h1,h2,by rw[mD];exact h3,fun i x cs hi p m=>?_⟩;obtain⟨z,d,rfl⟩:=CW p;exact h.other hi d (j i z cs d m)
def yC.notrow{D:Nat->Prop}{w y f v s k g e q a n c b off}(h:yC D w y f v s k g e q a n c b off):wX D a n c b:=
 ⟨h.db,fun d=>(h.film.2 b d).1.2 (by rw[h.sa];rfl)⟩
def yC.still{D:Nat->Prop}{w w' y f v s k lq P q a n c b off}(h:yC D w y f v s k lq P q a n c b off)(h0:iP D w y f v s k)(e:gN (wX D a n c) w w')(S:∀g,(Value.slice a n c).ownBlock=some g-> ∀j,j<n*3->w'.cell? ⟨g,j,none⟩=w.cell? ⟨g,j,none⟩):iP D w' y f v s k:=by
 refine⟨h.fs.kept e (fun b d=>d.1),h.ws.kept e (fun b d=>d.1),?_,h.cf.kept ky e (fun b d=>d.1),h0.fn,h0.wn,h0.sn,h0.kn,h0.fc,h0.wc,h0.nm⟩;refine⟨h0.l.1,h0.l.2.1,fun T=>⟨b,off,h.sa,h.db,fun i x N=>?_⟩⟩;rw[<- h.eq]at N;obtain⟨z,r,rfl⟩:=CW N;obtain⟨b2,Q,B,a1,t⟩:=h.rr.2.2 T;rw[h.sa]at B;cases B
 by_cases hi:i=P
 .subst hi
  rw[h.at']at r;cases r;have o:=h.film.irp;refine⟨gX q.y.s a n c,⟨a,n,c,rfl,⟨o.1,o.2.1,fun E=>?_⟩,?_,h.film.none,h.gl⟩,fun j u X=>(e.cell (p:=⟨b,off+i*22+j,none⟩) h.notrow).trans (h.row j u X)⟩
  .obtain ⟨m,C⟩|⟨g,cap,a0,m,_⟩:=h.film.1.2
   .cases m;omega
   .cases m
    have A:(Value.slice (J g) n c).ownBlock=some g:=rfl;refine⟨g,0,rfl,(h.film.2 g A).1.1,fun j H=>?_⟩;obtain⟨b5,o5,R,_,F⟩:=o.2.2 E;cases R;rw[aV,S g A j H];have:=F j H;rw[aV]at this;exact this
  .obtain⟨cs,⟨a',n',c',m,hf,K,a2⟩,W⟩:=t i q h.at'
   subst m;have C:some (Value.slice a' n' c')=some (Value.slice a n c):=(W 21 _ rfl).symm.trans (h.row 21 _ rfl);cases C;exact K
 .obtain⟨cs,L,M⟩:=t i z r
  refine⟨cs,iD.kept (h.other hi r L) e (fun b d=>d.1),jb M e h.notrow⟩
structure Ez (D:Nat->Prop) (w w':World):Prop where
 os:w'.os=w.os
 tape:w'.tape=w.tape
 output:w'.output=w.output
 size:w.heap.size<=w'.heap.size
 kept:gN (fun b=>b<w.heap.size/\ ¬D b) w w'
def Ez.below{D:Nat->Prop}{w w'}(h:Ez D w w'){B}(a:∀b,D b->B<=b)(d:B<=w.heap.size):Below B w w':=
 ⟨h.os,h.tape,h.output,h.size,fun b e=>h.kept b ⟨by omega,fun c=>by have:=a b c;omega⟩⟩
def Rs(l:List gM)(w:World)(e:Ending)(w':World):Prop:=
 ∃a n c cf,e=.returned (.slice a n c)/\RR oB 2 (fun b=>w.heap.size<=b/\b<w'.heap.size) w' a n c cf/\n<=2/\jo l cf=true/\Below w w w'
def Cl:ByteArray:=⟨#[110,101,97,114]⟩
def Cm:ByteArray:=⟨#[102,97,114]⟩
def PL{S:Nat->Prop}{w T cs ys k b}(d:w.heap[b]? =some (.cells cs T (0,0)))(c:S b)(e:ys.length=1*k)(h:cs=(ys.map (Value.int .i64)).toArray):IRp S w k (J b) 1 1 ys:=by
 subst h;refine⟨e,aa _,fun _=>⟨_,0,rfl,c,fun j f=>?_⟩⟩
 have a:j<ys.length:=by omega
 rw[aV,gA d j];simp[ah,a]
def rQ{B w o}(h:B<=w.heap.size):Below B w (w.alloc o):=(TH _ _).alloc h _
def xl(l zs a b m d n c w)(h:RR jE 22 (fun b=>b<w.heap.size) w a m d l)(k:m<=1000000)(j:IR w w 3 b n c zs)(o:n<=1000000):
 Calls prog 106 #[Z a m d,Z b n c] w (fun e w'=>∃(v:Value)(r:Bool),e=.returned (.tuple #[v,r])/\(r=true->lr l ⟨ik,zs⟩=true)/\Below w w w'):=by
 have i:n=zs.length/3:=by rw[j.1];omega
 refine(wW l zs a b m d n c w h k j o).mono ?_;rintro e w' (⟨_,rfl,f⟩|⟨l',v,g,rfl,_,f⟩)
 .exact⟨_,_,rfl,(fun h=>by cases h),f⟩
 .exact⟨_,_,rfl,(fun h=>by unfold lr;simp only;rw[<- i,g];exact h),f⟩
def xm{ops c o a}{Q:Exit->Act->World->Prop}{w B e0}(i:o.guard=none)(s x)(l:o.op=.call {callee:=.builtin .append,args:=#[s,x],argTypes:=#[73,73]})(hs:a.eval s=.slice (J e0) 0 0)(he:w.heap[e0]? =some (.cells #[] 72 (0,0)))(hB:B<=e0){S:Nat->Prop}{ca cn cc zs}(hx:a.eval x=.slice ca cn cc)(hir:IRp S w 3 ca cn cc zs)(hcc:ca=none->cc=0)(hcn:cn<=4)(h:∀f w',w'.ownsRow B 72 3 f cn (zs.map (Value.int .i64))->Below B w w'->gN (fun b=>b<w.heap.size/\b≠e0) w w'->wpList prog ops Q c (a.put o.dst f) w'):wpList prog ops Q (o::c) a w:=by
 have hlt:=TK he;have d:w.ownsRow B 72 3 (.slice (J e0) 0 0) 0 (([]:List Int).map (Value.int .i64)):=⟨by simp,.inr ⟨e0,0,#[],rfl,hB,he,aa _,by unfold maxLen;omega,rfl,by simp⟩⟩;refine je underlying73 Tryz.infoChange3 rfl (by omega) (by omega) i s x l B _ 0 [] hs d S ca cn cc zs hx hir hcc (by omega) (by omega) ?_;intro f w' h1 h2;rw[aV]at h1;exact h f w' h1 ((TH B w).grown h2 (by omega) (fun k j=>by simp[Value.ownBlock]at j;omega)) ((nW h2).mono (fun b g=>⟨g.1,by simp[Value.ownBlock];exact fun e=>g.2 e.symm⟩))
def Dn{ops b o a}{Q:Exit->Act->World->Prop}{w B g}(d:o.guard=none)(s x)(i:o.op=.call {callee:=.builtin .append,args:=#[s,x],argTypes:=#[73,73]}){v cn zs}(hs:a.eval s=v)(hown:w.ownsRow B 72 3 v cn (zs.map (Value.int .i64)))(hx:a.eval x=.slice (J g) 1 1){q0 q1 q2:Int}(hg:w.heap[g]? =some (.cells #[q0,q1,q2] 72 (0,0)))(hcn:cn<=4)(hB:B<=w.heap.size)(h:∀c w',w'.ownsRow B 72 3 c (cn+1) ((zs++[q0,q1,q2]).map (Value.int .i64))->Below B w w'->wpList prog ops Q b (a.put o.dst c) w'):wpList prog ops Q (o::b) a w:=by
 refine je underlying73 Tryz.infoChange3 rfl (by omega) (by omega) d s x i B v cn zs hs hown (fun _=>True) _ 1 1 [q0,q1,q2] hx (PL hg trivial rfl rfl) (fun e=>by cases e) (by omega) hB ?_;intro c w' h1 h2;exact h c w' h1 ((TH B w).grown h2 hB (fun k f=>(hown.lt k f).1))
def KV(x s f v k l sa m sc w)(hk:RR JA 1 (fun b=>b<w.heap.size) w k.a k.n k.c x.puts)(hs:RR jE 22 (fun b=>b<w.heap.size) w sa m sc l)(hm:1<=m)(e5:m<=1000000):
 Calls prog 72 #[EW x s f v k,Z sa m sc] w (Rs l w):=by
 obtain⟨ka,n,kc⟩:=k;have Hk:=O hk;have Hs:=O hs;clear hk hs
 have j0:((m:Int)==0)=false:=by simp;omega
 have g4:=oU.new w x s f v ⟨ka,n,kc⟩;have f6:=(TH w w).alloc (aa _) (.cells (lI x s f v ⟨ka,n,kc⟩).toArray 28);have f4:=O g4;have f0:=O f6;clear g4 f6
 go_enter func72,ntmps72
 go_upto_region 1 with fail
 refine gI (fun wx=>oU wx w x s f v ⟨ka,n,kc⟩/\Below w w wx) ⟨f4,f0⟩ ?_;clear f4 f0;rintro w1 ⟨hg,hb⟩;have hl:=hg.lt;have Hg:=O hg;have f1:=O hb;clear hg hb
 go_wp2_with fail
 go_loopw [5,6] (fun ov iv wr=>∃(i:Nat)(cf:List jd),i<=2/\cf.length=i/\iv=.int .i64 (i:Int)/\jD oB 2 75 (w+1) wr ov cf/\(cf.all (lr l)=true/\cf.map jd.nm=[Cl,Cm].take i)/\oU wr w x s f v ⟨ka,n,kc⟩/\Below w w wr) (fun _ iv _=>2-(intOf iv).toNat)
 case atStart=>exact⟨0,[],by omega,rfl,rfl,jD.nil _ _ _ _ _,⟨rfl,rfl⟩,Hg,f1⟩
 case round=>
  clear Hg f1 hl;obtain⟨i,cf,hi,g0,rfl,ho,b9,hg,hb⟩:=hrel;have a4:=O b9;clear b9;obtain⟨-,-,-,-,-,-,-,-,c8⟩:=hg.cells;have hl:=hg.lt;have Ho:=O ho;have Hg:=O hg;have Hb:=O hb;have c2:=O g0;clear ho hg hb g0
  by_cases d2:i<n/\i<2
  .obtain⟨d2,i7⟩:=d2
   obtain⟨D,rfl⟩:∃D:World,D=wr:=⟨_,rfl⟩;obtain⟨bk,ko,ps,j2,e1,i0,-,⟨pa,pn,pc,rfl,h0⟩,g9⟩:=(Hk.kept Id (gE Hb) (fun b h=>h)).at d2
   try simp only at e1
   subst e1;have p0:=g9 0 _ rfl;rw[bE,dn]at p0;have P0:=O p0;have h6:=O h0;have d4:bk<D.heap.size:=ab i0 Hb.size;clear p0 h0 g9
   go_upto_region 5 with fail
   go_cut [7] (fun v7 wx=>v7=.pointer (J (D+1))/\ ∃nm:ByteArray,nm.size<=9223372036854775807/\[Cl,Cm][i]? =some nm/\wx.heap[D.heap.size+1]? =some (.cells #[nm,oN] 75 (0,0))/\Below D D wx)
   case first=>
    have e9:i=0\/i=1:=by omega
    obtain rfl|rfl:=e9
    .go_wp2
     go_meet;refine⟨rfl,Cl,by decide,rfl,?_,gY (gY (TH _ _))⟩;have h:=TL (D.alloc (.cells #[Cl,Cm] 9)) (.cells #[Cl,oN] 75);rw[nB]at h;exact h
    .go_wp2
     go_meet;refine⟨rfl,Cm,by decide,rfl,?_,gY (gY (TH _ _))⟩;have h:=TL (D.alloc (.cells #[Cl,Cm] 9)) (.cells #[Cm,oN] 75);rw[nB]at h;exact h
   case rest=>
    obtain⟨rfl,nm,g7,d6,h7,A⟩:=hcut;have e8:=O d6;clear d6;have e3:=TK h7;have H7:=O h7;have a6:=O A;have h4:=O g7;clear h7 A g7 c8
    go_wp2_with fail
    go_loopw [8] (fun jv wr=>∃(j:Nat)(ca:Option Addr)(cn cc:Nat)(zs:List Int),j<=4/\cn<=j/\jv=.int .i64 (j:Int)/\wr.heap[D.heap.size+1]? =some (.cells #[nm,Z ca cn cc] 75 (0,0))/\IRp (fun b=>D.heap.size+1<b/\b<wr.heap.size) wr 3 ca cn cc zs/\(ca=none->cc=0)/\lr l ⟨ik,zs⟩=true/\Below D D wr) (fun jv _=>4-(intOf jv).toNat)
    case atStart=>exact⟨0,none,0,0,[],by omega,by omega,rfl,H7,IRp.nil _ _ _ _ _,fun _=>rfl,rfl,a6⟩
    case round=>
     clear H7 a6 e3;obtain⟨j,ca,cn,cc,zs,hj,i6,rfl,h7,g6,f9,g5,A⟩:=hrel;have c6:=O g5;clear g5;have e3:=TK h7;have c8:=((Hg.go A).cells).2.2.2.2.2.2.2.2;have p0:=(A.cell (p:=⟨bk,ko+i,none⟩) d4).trans P0;have i9:w.heap.size<wr.heap.size:=ab hl A.size;have i3:bk<wr.heap.size:=ab d4 A.size;have i5:=A.size;have d0:=(gA h7 0).trans rfl;have d1:=(gA h7 1).trans rfl;have H7:=O h7;have c7:=O g6;have c1:=O f9;have a6:=O A;clear h7 g6 f9 A
     by_cases d3:j<pn/\j<4
     .obtain⟨d3,i8⟩:=d3
      obtain⟨bp,po,q,j3,e1,i1,-,⟨rfl,h1,e6,h2⟩,d7⟩:=(h6.kept QA ((gE a6).mono (fun b h=>ab h Hb.size)) (fun b h=>h)).at d3;subst e1;have x0:=d7 0 _ rfl;have x1:=d7 1 _ rfl;have x2:=d7 2 _ rfl;rw[bE]at x0;have i4:bp<wr.heap.size:=ab i1 (by have:=Hb.size;omega);obtain⟨X,S,T⟩:=q;unfold og at h1 e6;unfold qD at h2;simp only at x0 x1 x2 h1 e6 h2;clear d7;obtain⟨wq,rfl⟩:∃wq:World,wq=wr:=⟨_,rfl⟩;have d5:=TL wq (.cells #[.int .u8 X,.int .u8 S,.int .i16 T] 206);have f8:=(TH wq wq).alloc (aa _) (.cells #[.int .u8 X,.int .u8 S,.int .i16 T] 206);have c9:=O d5;have f3:=O f8;clear d5 f8
      go_upto_region 10 with fail
      refine gI (fun wx=>wx.heap[wq.heap.size]? =some (.cells #[.int .u8 X,.int .u8 S,.int .i16 T] 206 (0,0))/\Below wq wq wx) ⟨c9,f3⟩ ?_;clear c9 f3 x0 x1 x2 c8 p0 d0 d1;rintro C ⟨h9,b8⟩;have e4:=TK h9;have x0:=(gA h9 0).trans rfl;have x1:=(gA h9 1).trans rfl;have x2:=(gA h9 2).trans rfl;have h7:=(b8.block _ e3).trans H7;have d1:=(gA h7 1).trans rfl;have b4:=TK h7;have a5:=O (c7.kept ((gE b8).mono (fun b h=>h.2)) (fun b h=>(⟨h.1,ab h.2 b8.size⟩:D.heap.size+1<b/\b<C.heap.size)));have b6:=O h7;have b7:=O b8;have H:=O ((a6).trans (b8.mono a6.size));have c0:=c7;clear h9 h7 b8 H7 c7
      have j1:¬m=0:=by omega
      have u0:IntKind.i64.wrap X=X:=TM _ (by omega);have u1:IntKind.i64.wrap S=S:=TM _ (by omega);have u2:IntKind.i64.wrap (1+S.tmod 17)=1+S.tmod 17:=TM _ (by have:=sJ e6.1 17 (by omega);omega);have u3:IntKind.i64.wrap T=T:=TM _ (by omega);have u4:IntKind.i64.wrap (1000*T)=1000*T:=TM _ (by omega);refine jw (C.heap.size) [1,2,4,5,6,7,8,9,10,11,12,13,14,15,16,17,18,19] 5 (by kernel_rfl) rfl (by kernel_rfl) (by kernel_rfl) (fun _ _ o _ _ h=>by cases o<;>exact h) ?_
      iterate 18
       refine jW (v:=?_) rfl (by rfl) ?_ ?_;rotate_left
       .intro y hy
        have z0:=(hy.cell (p:=J (wq.heap.size)) e4).trans x0;have z1:=(hy.cell (p:=⟨wq.heap.size,1,none⟩) e4).trans x1;have z2:=(hy.cell (p:=⟨wq.heap.size,2,none⟩) e4).trans x2;have z3:=(hy.cell (p:=⟨D.heap.size+1,1,none⟩) b4).trans d1;go_simp
        with_reducible rfl
       try simp only[V]
      refine mB ?_;clear x0 x1 x2 d1;have d9:=O c1.out;refine Fb (i:=0) (j:=20) (by kernel_rfl) rfl rfl rfl rfl (fun K r=>?_) (fun K r=>?_)
      .refine qG rfl (.slice (J (C.drew.heap.size)) 0 0) (.cells #[] 72) (by go_simp) ?_
       refine r _ _ (rQ (w:=C.drew) (aa C)) ?_;clear r K
       try simp only[V]
       have he:=TL C.drew (.cells #[] 72);have a3:Below C C (C.drew.alloc (.cells #[] 72)):=gY (jA (TH _ _))
       have d8:(C.drew.alloc (.cells #[] 72)).heap.size=C.heap.size+1:=by simp
       generalize C.drew.alloc (.cells #[] 72)=wE at*;refine Fb (i:=3) (j:=20) (by kernel_rfl) rfl rfl rfl rfl (fun K r=>?_) (fun K r=>?_)
       .refine xm rfl (.tmp 51) (.tmp 53) rfl (e0:=C.heap.size) rfl he (aa _) rfl (a5.kept (gE a3|>.mono (fun b h=>h.2)) (fun b h=>h)) d9 (by omega) ?_
        intro v5 w5 Q a1 b5;refine r _ _ a1 ?_;clear r K
        try simp only[V]
        have t:=a3.trans a1;refine mm (i:=20) (by kernel_rfl) rfl rfl (fun K r=>?_);refine qG rfl (.slice (J (w5.heap.size)) 1 1) (.cells #[.int .i64 (X.tmod m),.int .i64 (1+S.tmod 17),.int .i64 (1000*T)] 72) (by go_simp) ?_;refine r _ _ (rQ (w:=w5) t.size) ?_;clear r K
        try simp only[V]
        have hg:=TL w5 (.cells #[.int .i64 (X.tmod m),.int .i64 (1+S.tmod 17),.int .i64 (1000*T)] 72);have W:=t.alloc t.size (.cells #[.int .i64 (X.tmod m),.int .i64 (1+S.tmod 17),.int .i64 (1000*T)] 72);refine mm (i:=21) (by kernel_rfl) rfl rfl (fun K r=>?_);refine Dn rfl (.tmp 54) (.tmp 71) rfl rfl (Q.alloc _) rfl hg (by omega) W.size ?_;intro v6 w6 z a2;refine r _ _ a2 ?_;clear r K
        try simp only[V]
        have u:=O z;have E:=O (W.trans a2);clear Q a1 b5 t hg W z a2 he a3 d8;refine ia (i:=22) (by kernel_rfl) rfl rfl (fun K r=>?_);go_simp;refine r _ _ (TH _ _) ?_;clear r K;refine lH (by kernel_rfl) ?_;obtain⟨b1,b2,rfl,N,P⟩:=lc u;have a7:=O N;have L:=O P;clear N P u;have a0:=(E.block _ b4).trans b6;have a8:=TK a0;have a9:=O a0;have B:=O (H.trans (E.mono H.size));have c5:=O B.size;have F:=O b7.size;clear a0 b6 a5 H
        go_upto_if 79 with((with_reducible refine(xl l _ sa b1 m sc (cn+1) b2 _ (Hs.out.go iD (I Hb.out B.out)) e5 (L.out.ir (fun _ h=>h.2)) (by omega)).mono ?_);rintro e w7 ⟨v7,r7,rfl,b3,A⟩;have d:=O A;have c3:=O b3;clear A b3)
        have M:=(d.block _ a8).trans a9;have h3:=(gA M 1).trans rfl
        have f5:w7.frozen? ⟨D.heap.size+1,1,none⟩=false:=by rw[World.frozen?,M];rfl
        have b0:=O M;clear M a9;have R:=O (B.trans (d.mono c5));cases r7
        .go_wp2_with fail
         go_roundw
         case rel=>exact⟨j+1,ca,cn,cc,zs,by omega,by omega,by go_num,b0,c0.kept ((gE (b7.trans (E.mono F)|>.trans (d.mono (af F E.size)))).mono (fun b h=>h.2)) (fun b h=>⟨h.1,ab h.2 (af F (af E.size d.size))⟩),c1,c6,R⟩
         case measure=>simp[intOf];omega
        .go_wp2_with fail
         go_roundw
         case rel=>exact⟨j+1,b1,cn+1,b2,_,by omega,by omega,by go_num,gG b0 1 _,L.kept (((gE d).mono (fun b h=>h.2)).trans ((gK (D+1) [_] 1 w7).mono (fun b h=>by have:=F.out;have:=h.1;omega))) (fun b h=>⟨by have:=F.out;have:=h.1;omega,by(show b<((w7.setCell ⟨D.heap.size+1,1,none⟩ _).heap.size));simp;exact ab h.2 d.size⟩),a7,c3 rfl,R.setCell (p:=⟨D.heap.size+1,1,none⟩) (bY _) _⟩
         case measure=>simp[intOf];omega
       .refine qG rfl (.slice (J (wE.heap.size)) 1 1) (.cells #[.int .i64 (X.tmod m),.int .i64 (1+S.tmod 17),.int .i64 (1000*T)] 72) (by go_simp) ?_
        refine r _ _ (rQ (w:=wE) a3.size) ?_;clear r K
        try simp only[V]
        have hg:=TL wE (.cells #[.int .i64 (X.tmod m),.int .i64 (1+S.tmod 17),.int .i64 (1000*T)] 72);have W:=a3.alloc a3.size (.cells #[.int .i64 (X.tmod m),.int .i64 (1+S.tmod 17),.int .i64 (1000*T)] 72);have g1:=(TJ wE (.cells #[.int .i64 (X.tmod m),.int .i64 (1+S.tmod 17),.int .i64 (1000*T)] 72) _ (TK he)).trans he
        have e7:(wE.alloc (.cells #[.int .i64 (X.tmod m),.int .i64 (1+S.tmod 17),.int .i64 (1000*T)] 72)).heap.size=wE.heap.size+1:=by simp
        generalize wE.alloc (.cells #[.int .i64 (X.tmod m),.int .i64 (1+S.tmod 17),.int .i64 (1000*T)] 72)=wG at*;refine mm (i:=3) (by kernel_rfl) rfl rfl (fun K r=>?_);refine xm rfl (.tmp 51) (.tmp 53) rfl (e0:=C.heap.size) rfl g1 (aa _) rfl (a5.kept (gE W|>.mono (fun b h=>h.2)) (fun b h=>h)) d9 (by omega) ?_;intro v5 w5 Q a1 b5;refine r _ _ a1 ?_;clear r K
        try simp only[V]
        have t:=W.trans a1;have c4:=(b5 wE ⟨by omega,by omega⟩).trans hg;refine mm (i:=21) (by kernel_rfl) rfl rfl (fun K r=>?_);refine Dn rfl (.tmp 54) (.tmp 71) rfl rfl Q rfl c4 (by omega) t.size ?_;intro v6 w6 z a2;refine r _ _ a2 ?_;clear r K
        try simp only[V]
        have u:=O z;have E:=O (t.trans a2);clear Q a1 b5 t hg W z a2 he a3 d8 e7 g1 c4;refine ia (i:=22) (by kernel_rfl) rfl rfl (fun K r=>?_);go_simp;refine r _ _ (TH _ _) ?_;clear r K;refine lH (by kernel_rfl) ?_;obtain⟨b1,b2,rfl,N,P⟩:=lc u;have a7:=O N;have L:=O P;clear N P u;have a0:=(E.block _ b4).trans b6;have a8:=TK a0;have a9:=O a0;have B:=O (H.trans (E.mono H.size));have c5:=O B.size;have F:=O b7.size;clear a0 b6 a5 H
        go_upto_if 79 with((with_reducible refine(xl l _ sa b1 m sc (cn+1) b2 _ (Hs.out.go iD (I Hb.out B.out)) e5 (L.out.ir (fun _ h=>h.2)) (by omega)).mono ?_);rintro e w7 ⟨v7,r7,rfl,b3,A⟩;have d:=O A;have c3:=O b3;clear A b3)
        have M:=(d.block _ a8).trans a9;have h3:=(gA M 1).trans rfl
        have f5:w7.frozen? ⟨D.heap.size+1,1,none⟩=false:=by rw[World.frozen?,M];rfl
        have b0:=O M;clear M a9;have R:=O (B.trans (d.mono c5));cases r7
        .go_wp2_with fail
         go_roundw
         case rel=>exact⟨j+1,ca,cn,cc,zs,by omega,by omega,by go_num,b0,c0.kept ((gE (b7.trans (E.mono F)|>.trans (d.mono (af F E.size)))).mono (fun b h=>h.2)) (fun b h=>⟨h.1,ab h.2 (af F (af E.size d.size))⟩),c1,c6,R⟩
         case measure=>simp[intOf];omega
        .go_wp2_with fail
         go_roundw
         case rel=>exact⟨j+1,b1,cn+1,b2,_,by omega,by omega,by go_num,gG b0 1 _,L.kept (((gE d).mono (fun b h=>h.2)).trans ((gK (D+1) [_] 1 w7).mono (fun b h=>by have:=F.out;have:=h.1;omega))) (fun b h=>⟨by have:=F.out;have:=h.1;omega,by(show b<((w7.setCell ⟨D.heap.size+1,1,none⟩ _).heap.size));simp;exact ab h.2 d.size⟩),a7,c3 rfl,R.setCell (p:=⟨D.heap.size+1,1,none⟩) (bY _) _⟩
         case measure=>simp[intOf];omega
      .refine qG rfl (.slice (J (C.drew.heap.size)) 1 1) (.cells #[.int .i64 (X.tmod m),.int .i64 (1+S.tmod 17),.int .i64 (1000*T)] 72) (by go_simp) ?_
       refine r _ _ (rQ (w:=C.drew) (aa C)) ?_;clear r K
       try simp only[V]
       have hg:=TL C.drew (.cells #[.int .i64 (X.tmod m),.int .i64 (1+S.tmod 17),.int .i64 (1000*T)] 72);have W:Below C C (C.drew.alloc (.cells #[.int .i64 (X.tmod m),.int .i64 (1+S.tmod 17),.int .i64 (1000*T)] 72)):=gY (jA (TH _ _))
       have e7:(C.drew.alloc (.cells #[.int .i64 (X.tmod m),.int .i64 (1+S.tmod 17),.int .i64 (1000*T)] 72)).heap.size=C.heap.size+1:=by simp
       generalize C.drew.alloc (.cells #[.int .i64 (X.tmod m),.int .i64 (1+S.tmod 17),.int .i64 (1000*T)] 72)=wG at*;refine mm (i:=0) (by kernel_rfl) rfl rfl (fun K r=>?_);refine qG rfl (.slice (J (wG.heap.size)) 0 0) (.cells #[] 72) (by go_simp) ?_;refine r _ _ (rQ (w:=wG) W.size) ?_;clear r K
       try simp only[V]
       have he:=TL wG (.cells #[] 72);have a3:=W.alloc W.size (.cells #[] 72);have g2:=(TJ wG (.cells #[] 72) _ (TK hg)).trans hg
       have d8:(wG.alloc (.cells #[] 72)).heap.size=wG.heap.size+1:=by simp
       generalize wG.alloc (.cells #[] 72)=wE at*;refine mm (i:=3) (by kernel_rfl) rfl rfl (fun K r=>?_);refine xm rfl (.tmp 51) (.tmp 53) rfl (e0:=wG.heap.size) rfl he W.size rfl (a5.kept (gE a3|>.mono (fun b h=>h.2)) (fun b h=>h)) d9 (by omega) ?_;intro v5 w5 Q a1 b5;refine r _ _ a1 ?_;clear r K
       try simp only[V]
       have t:=a3.trans a1;have c4:=(b5 C.drew ⟨by(show C.heap.size<_);omega,by(show C.heap.size≠_);omega⟩).trans g2;refine mm (i:=21) (by kernel_rfl) rfl rfl (fun K r=>?_);refine Dn rfl (.tmp 54) (.tmp 71) rfl rfl Q rfl c4 (by omega) t.size ?_;intro v6 w6 z a2;refine r _ _ a2 ?_;clear r K
       try simp only[V]
       have u:=O z;have E:=O (t.trans a2);clear Q a1 b5 t hg W z a2 he a3 d8 e7 g2 c4;refine ia (i:=22) (by kernel_rfl) rfl rfl (fun K r=>?_);go_simp;refine r _ _ (TH _ _) ?_;clear r K;refine lH (by kernel_rfl) ?_;obtain⟨b1,b2,rfl,N,P⟩:=lc u;have a7:=O N;have L:=O P;clear N P u;have a0:=(E.block _ b4).trans b6;have a8:=TK a0;have a9:=O a0;have B:=O (H.trans (E.mono H.size));have c5:=O B.size;have F:=O b7.size;clear a0 b6 a5 H
       go_upto_if 79 with((with_reducible refine(xl l _ sa b1 m sc (cn+1) b2 _ (Hs.out.go iD (I Hb.out B.out)) e5 (L.out.ir (fun _ h=>h.2)) (by omega)).mono ?_);rintro e w7 ⟨v7,r7,rfl,b3,A⟩;have d:=O A;have c3:=O b3;clear A b3)
       have M:=(d.block _ a8).trans a9;have h3:=(gA M 1).trans rfl
       have f5:w7.frozen? ⟨D.heap.size+1,1,none⟩=false:=by rw[World.frozen?,M];rfl
       have b0:=O M;clear M a9;have R:=O (B.trans (d.mono c5));cases r7
       .go_wp2_with fail
        go_roundw
        case rel=>exact⟨j+1,ca,cn,cc,zs,by omega,by omega,by go_num,b0,c0.kept ((gE (b7.trans (E.mono F)|>.trans (d.mono (af F E.size)))).mono (fun b h=>h.2)) (fun b h=>⟨h.1,ab h.2 (af F (af E.size d.size))⟩),c1,c6,R⟩
        case measure=>simp[intOf];omega
       .go_wp2_with fail
        go_roundw
        case rel=>exact⟨j+1,b1,cn+1,b2,_,by omega,by omega,by go_num,gG b0 1 _,L.kept (((gE d).mono (fun b h=>h.2)).trans ((gK (D+1) [_] 1 w7).mono (fun b h=>by have:=F.out;have:=h.1;omega))) (fun b h=>⟨by have:=F.out;have:=h.1;omega,by(show b<((w7.setCell ⟨D.heap.size+1,1,none⟩ _).heap.size));simp;exact ab h.2 d.size⟩),a7,c3 rfl,R.setCell (p:=⟨D.heap.size+1,1,none⟩) (bY _) _⟩
        case measure=>simp[intOf];omega
     .have hx:¬j<pn\/(j<pn/\ ¬j<4):=by omega
      clear d3
      obtain hx|⟨hx,hx4⟩:=hx
      all_goals
       go_wp2_with(refine qU ky underlying35 Tryz.infoConfig3 rfl (by omega) (by omega) rfl (.tmp 82) (.tmp 84) rfl (w+1) wr _ cf ⟨nm,zs⟩ [nm,Z ca cn cc] rfl (Ho.go ky a6) rfl rfl ⟨ca,cn,cc,rfl,c7.kept (gN.refl _ _) (fun b h=>⟨by omega,h.2,Ho.fresh (by omega)⟩),by omega,c1,h4⟩ (by rw[c2];omega) (by omega) ?_;intro g3 i2 w8 g8 f7;have h5:=O g8;have f2:=O f7;clear g8 f7)
       go_roundw
       case rel=>exact⟨i+1,cf++[⟨nm,zs⟩],by omega,by rw[al,c2];rfl,by go_num,by have q:=h5.out;exact(by simpa using q),⟨(by rw[er,a4.1];show(true&& (lr l ⟨nm,zs⟩&&true))=true;rw[show lr l ⟨nm,zs⟩=true from c6];rfl),by rw[aT,a4.2,mn e8];rfl⟩,((f2 _ _ (aa _) (a6.mono (by omega))).block _ (dk _)).trans Hg,f2 _ _ (bY _) (I Hb a6)⟩
       case measure=>simp[intOf];omega
  .have hx:¬i<n\/(i<n/\ ¬i<2):=by omega
   clear d2
   obtain⟨oa,oc,rfl⟩:∃oa oc,u5=.slice oa i oc:=by
    obtain ⟨e,e2⟩|⟨g,cap,e,-⟩:=Ho.form
    .exact⟨none,0,by rw[e];have:=c2.out;rw[e2]at this;cases this;rfl⟩
    .exact⟨_,_,by rw[e,c2]⟩
   obtain hx|⟨hx,hx4⟩:=hx
   all_goals
    go_wp2;go_ret;exact⟨oa,i,oc,cf,rfl,(Ho.rr2 ky).kept ky (gN.refl _ _) (fun b h=>⟨by omega,h.2⟩),by omega,by(unfold jo;rw[a4.1,a4.2,c2];have h8:i=0\/i=1\/i=2:=by omega);obtain rfl|rfl|rfl:=h8<;>decide+kernel,Hb⟩
end Go.Proofs.YtgohdcccfkjooaaGreatDoor
