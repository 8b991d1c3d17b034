import Derived.Test.YtlnbjinneegciaaGreatDoorOAU
import Derived.Test.YtlnbjinneegciaaGreatDoorOAT
namespace Go.Proofs.YtlnbjinneegciaaGreatDoor
set_option linter.all false
set_option maxRecDepth 100000
set_option maxHeartbeats 12800000
open Go.Proofs.Tryz Go.RowKit
def iP.wf{D:Nat->Prop}{w:World}{x:gR}{f v s k:iJ}(h:iP D w x f v s k):S0 x where
 fs:=by have:=h.fs.1;omega
 ws:=by have:=h.ws.1;omega
 l:=fun y g=>by
  obtain⟨i,hi,rfl⟩:=dJ g;have h1:=h.l.1;obtain⟨b,off,q,cs,e,m,d,⟨a,n,c,_,j,_⟩,_⟩:=h.l.at (i:=i) (by omega);rw[ae hi]at d;cases d;have:=j.1;omega
 cf:=fun y g=>by
  obtain⟨i,hi,rfl⟩:=dJ g;have h1:=h.cf.1;obtain⟨b,off,q,cs,e,m,d,⟨a,n,c,_,j,_⟩,_⟩:=h.cf.at (i:=i) (by omega);rw[ae hi]at d;cases d;have:=j.1;omega
def OR{x:gR}(h:iI x=true):wI x=.tuple #[.string (bs (nO x)),oZ]:=by unfold wI;rw[aq h,aq h]
def I8:(prog.types[38]'(by decide+kernel)).size=9:=by kernel_rfl
structure OS (w:World) (x:rz) (c:Int) (s f v k:iJ) (n:Nat->Int) (wx:World):Prop where
 d:Sj wx w x c s f v k
 a:Ik wx (w+1) n
 b:Below w w wx
def OS.go{w g i:World}{x:rz}{c:Int}{s f v k:iJ}{n:Nat->Int}(h:OS w x c s f v k n g)(e:Below g g i):OS w x c s f v k n i:=
 ⟨(e.block _ (TK h.d)).trans h.d,(e.block _ (TK h.a)).trans h.a,I h.b e⟩
def Sj.cells{w:World}{g:Nat}{x:rz}{c:Int}{s f v k:iJ}(h:Sj w g x c s f v k):w.cell? (J g)=some (.slice s.a s.n s.c)/\w.cell? ⟨g,1,none⟩=some (.int .u8 x.stop)/\w.cell? ⟨g,2,none⟩=some (.int .u16 x.far)/\w.cell? ⟨g,3,none⟩=some (.int .u8 x.p9)/\w.cell? ⟨g,4,none⟩=some (.slice f.a f.n f.c)/\w.cell? ⟨g,5,none⟩=some (.slice v.a v.n v.c)/\w.cell? ⟨g,6,none⟩=some (.int .u8 x.i4)/\w.cell? ⟨g,7,none⟩=some (.int .i16 x.t7)/\w.cell? ⟨g,8,none⟩=some (.slice k.a k.n k.c)/\w.cell? ⟨g,9,none⟩=some (.int .u8 c):=
 ⟨(VV h 0).trans rfl,(VV h 1).trans rfl,(VV h 2).trans rfl,(VV h 3).trans rfl,(VV h 4).trans rfl,(VV h 5).trans rfl,(VV h 6).trans rfl,(VV h 7).trans rfl,(VV h 8).trans rfl,(VV h 9).trans rfl⟩
def WF:∀(L:List (List UInt8))(k:Nat),(L.getD k []).length<=(Uj L).length
 |[],k=>by simp
 |[x],0=>by simp[Uj]
 |[x],k+1=>by simp
 |x::y::l,0=>by rw[Uj,al];simp
 |x::y::l,k+1=>by
  have:=WF (y::l) k;rw[Uj,al,aH];simp only[eA];omega
def WK:∀L:List (List UInt8),L.length<=(Uj L).length+1
 |[]=>by simp
 |[x]=>by simp
 |x::y::l=>by
  have:=WK (y::l);rw[Uj,al];simp only[aH]at this⊢;omega
def XR{q:Int}{n:Nat}(h:og q)(b:2<=n):∃k:Nat,(wrap64 q).tmod ((n:Int)-1)=(k:Int)/\k+1<n:=by
 have c:0<=q/\q<=255:=h
 have hw:wrap64 q=q:=by unfold wrap64;omega
 have a:=cx q.toNat (show 0<n-1 by omega);refine⟨q.toNat% (n-1),?_,by omega⟩;rw[hw,show q=((q.toNat:Nat):Int)by omega,show(n:Int)-1=((n-1:Nat):Int)by omega];rfl
def WA{C:List (List UInt8)}{L:List (List mN)}{w:World}{gl k:Nat}{A:List mN}(a:C=L.map nN)(h:w.heap[gl]? =some (.cells (ji C).toArray 9))(b:L[k]? =some A):w.cell? ⟨gl,k,none⟩=some (.string (bs (nN A))):=by
 rw[VV h k,bo,a];unfold ji;rw[aR,aR,b];rfl
def Xb{z:gR}{k:Nat}(hf:∀w∈AI z,NZ w/\ ∃a wa,w=a::wa/\a∈Wo)(i:∀w∈AI z,yu w)(f:k<(AI z).length):∃a wa,(AI z)[k]? =some (a::wa)/\a∈Wo/\(∀b∈a,b≠32):=by
 have g:(AI z)[k] ∈AI z:=cW f;obtain⟨_,a,wa,d,e⟩:=hf _ g;have c:=i _ g;refine⟨a,wa,by rw[ae f,d],e,fun b h=>?_⟩;rw[d]at c;exact((c.2 a aG).2 b h).1
def Wz(a:mN)(c:a∈Wo)(w:World)(i:GW w):Calls prog 11 #[.string (bs a)] w (iZ w (.bool (decide (a∈kV)))):=by
 obtain⟨m,j⟩:=i.m
 have f:a.length<=20:=by
  have:∀a∈Wo,a.length<=20:=by decide+kernel
  exact this a c
 have b:=XP a c
 have d:Calls prog 12 #[.string (bs XO),.string (bs (32::(a++[32])))] w (iZ w (.bool (decide (a∈kV)))):=by
  refine(Any.strings_Contains Tryz.lays144 (bs XO) (bs (32::(a++[32]))) m w (by decide) j).mono ?_;rintro e w' ⟨rfl,rfl⟩;refine⟨?_,TH _ _⟩
  show Ending.returned (.bool (Lib.contains XO (32::(a++[32]))))=_
  rw[b]
 generalize decide (a∈kV)=D at*;have g:=O d;clear d b;go_enter func11,ntmps11;go_wp2_with fail;refine(g).mono ?_;rintro e w' ⟨rfl,h⟩;go_wp2;go_ret;exact⟨rfl,h⟩
def W8(a:mN)(wa:List mN)(h:∀b∈a,b≠32)(w:World)(d:GW w)(i:(nN (a::wa)).length<=1000000):Calls prog 10 #[.string (bs (nN (a::wa))),.string {data:=#[32]}] w fun e w'=>∃g v2,e=.returned (.tuple #[.string (bs a),g,v2])/\Below w w w':=by
 obtain⟨m,f⟩:=d.m;refine(Tryz.strings_Cut (bs (nN (a::wa))) (bs [32]) m w (by rw[lE];omega) f).mono ?_;rintro e w' ⟨rfl,n,rfl⟩;have c:=Xp (wa:=wa) h;refine⟨.string ⟨(Lib.cut (nN (a::wa)) [32]).2.1.toArray⟩,.bool (Lib.cut (nN (a::wa)) [32]).2.2,?_,gV (TH _ _) n⟩
 show Ending.returned (.tuple #[.string (bs (Lib.cut (nN (a::wa)) [32]).1),.string ⟨(Lib.cut (nN (a::wa)) [32]).2.1.toArray⟩,.bool (Lib.cut (nN (a::wa)) [32]).2.2])=_
 rw[c]
def WY(x:rz)(c:Int)(s f v k:iJ)(n:Nat->Int)(p:Int)(w:World)(hx:xU (fun b=>b<w.heap.size) w x s f v k)(hc:og c)(hn:∀i,og (n i))(hp:og p)(hw:KW w):
 Calls prog 3 #[Fh x c s f v k,Nw n,.int .u8 p] w (iZ w (.bool true)):=by
 obtain⟨e1,e2⟩:=iN w (.cells (qd x c s f v k).toArray 30) (.cells #[.int .u8 (n 0),.int .u8 (n 1),.int .u8 (n 2),.int .u8 (n 3),.int .u8 (n 4),.int .u8 (n 5),.int .u8 (n 6),.int .u8 (n 7)] 31);have hb:=iH (w:=w) (.cells (qd x c s f v k).toArray 30) (.cells #[.int .u8 (n 0),.int .u8 (n 1),.int .u8 (n 2),.int .u8 (n 3),.int .u8 (n 4),.int .u8 (n 5),.int .u8 (n 6),.int .u8 (n 7)] 31);have Hx:=O hx;have Hw:=O hw;have Hn:=O hn;have Hp:=O hp;have H0:=O (⟨e1,e2,hb⟩:OS w x c s f v k n _);clear hx hw hn hp e1 e2 hb;unfold Fh Nw;go_enter func3,ntmps3;go_upto_region 1 with fail;refine gI (OS w x c s f v k n) H0 ?_;clear H0;rintro w1 h1;have H1:=O h1;clear h1;go_wp2_with fail;refine(Mc w1 (Hw.go H1.b)).mono ?_;rintro e w2 ⟨rfl,m5⟩;have H2:=O (H1.go m5);clear m5 H1;go_upto_region 3 with fail
 go_cut [7] (fun pv wx=>∃(g:Nat)(z:gR)(Q S zs R:iJ),pv=.pointer (J g)/\hU wx g 38 z Q S zs R/\iP (fun b=>b<wx.heap.size) wx z Q S zs R/\iI z=true/\g<wx.heap.size/\Below w2 w2 wx)
 case first=>
  obtain⟨d0,d1,d2,d3,d4,d5,d6,d7,d8,d9⟩:=H2.d.cells;obtain⟨a0,a1,a2,a3,a4,a5,a6,a7⟩:=H2.a.cells;have l0:=TK H2.d;have l1:=TK H2.a;refine jw (w2.heap.size) [0,3] 5 (by kernel_rfl) rfl (by kernel_rfl) (by kernel_rfl) (fun _ _ o _ _ h=>by cases o<;>exact h) ?_
  iterate 2
   refine jW (v:=?_) rfl (by rfl) ?_ ?_;rotate_left
   .intro y N
    have y0:=(N.cell (p:=J (w.heap.size)) l0).trans d0;have y1:=(N.cell (p:=⟨w.heap.size,1,none⟩) l0).trans d1;have y2:=(N.cell (p:=⟨w.heap.size,2,none⟩) l0).trans d2;have y3:=(N.cell (p:=⟨w.heap.size,3,none⟩) l0).trans d3;have y4:=(N.cell (p:=⟨w.heap.size,4,none⟩) l0).trans d4;have y5:=(N.cell (p:=⟨w.heap.size,5,none⟩) l0).trans d5;have y6:=(N.cell (p:=⟨w.heap.size,6,none⟩) l0).trans d6;have y7:=(N.cell (p:=⟨w.heap.size,7,none⟩) l0).trans d7;have y8:=(N.cell (p:=⟨w.heap.size,8,none⟩) l0).trans d8;have y9:=(N.cell (p:=⟨w.heap.size,9,none⟩) l0).trans d9;have q0:=(N.cell (p:=J (w+1)) l1).trans a0;have q1:=(N.cell (p:=⟨w.heap.size+1,1,none⟩) l1).trans a1;have q2:=(N.cell (p:=⟨w.heap.size+1,2,none⟩) l1).trans a2;have q3:=(N.cell (p:=⟨w.heap.size+1,3,none⟩) l1).trans a3;have q4:=(N.cell (p:=⟨w.heap.size+1,4,none⟩) l1).trans a4;have q5:=(N.cell (p:=⟨w.heap.size+1,5,none⟩) l1).trans a5;have q6:=(N.cell (p:=⟨w.heap.size+1,6,none⟩) l1).trans a6;have q7:=(N.cell (p:=⟨w.heap.size+1,7,none⟩) l1).trans a7;go_simp;with_reducible rfl
   try simp only[V]
  refine mB ?_;clear d0 d1 d2 d3 d4 d5 d6 d7 d8 d9 a0 a1 a2 a3 a4 a5 a6 a7;have f8:=O (jA (TH w2 w2));generalize w2.drew=wd at*;refine CV (i:=1) (j:=5) (by kernel_rfl) rfl rfl rfl rfl (fun K t=>?_) (fun K t=>?_)
  .go_simp
   refine(zW x c s f v k _ (Hx.kept (gE (I H2.b f8)) (fun b h=>ab h (I H2.b f8).size)) hc).mono ?_;rintro e wa ⟨y,yf,yv,ys,yk,yp,L,N,A,-,g1⟩;unfold If at L;subst L;refine t _ _ (g1.mono f8.size) ?_;clear t K;(try simp only[V]);have j1:=O f8.size;have Hy:=O N;have e8:=O A;have c9:=O (I f8 g1);clear N A g1;refine CV (i:=2) (j:=5) (by kernel_rfl) rfl rfl rfl rfl (fun K t=>?_) (fun K t=>?_)
   .go_simp
    refine t _ _ (TH _ _) ?_;clear t K;(try simp only[V]);(try simp only[I8,dI,dU]);refine CV (i:=4) (j:=5) (by kernel_rfl) rfl rfl rfl rfl (fun K t=>?_) (fun K t=>?_)
    .go_simp
     refine(ph y yf yv ys yk n wa (fun b=>wd.heap.size<=b/\b<wa.heap.size) (fun b h=>h.2) Hy e8 Hn).mono ?_;rintro e wf ⟨z,Q,S,zs,R,L,hat,e3,-,hq⟩;unfold jG at L;subst L;have b0:Below w2 wa wf:=hq.below (fun b h=>af j1 h.1) c9.size;refine t _ _ b0 ?_;clear t K;try simp only[V]
     have b3:=O (hat.kept (T:=fun b=>b<wf.heap.size) (gN.refl _ _) (fun b h=>by
      have h3:=hq.size
      obtain h|h:=h
      .exact ab h.2 (by omega)
      .exact h.2))
     have g9:=O e3;have f3:=O (c9.trans b0);clear hat e3 hq b0;refine ia (i:=5) (fun K t=>?_);go_simp;have H:=(TH wf wf).alloc (aa _) (.cells #[.string ⟨#[]⟩,oZ,oZ,oZ,oZ,oN,oN,oN,oN] 38);have q:=TL wf (.cells #[.string ⟨#[]⟩,oZ,oZ,oZ,oZ,oN,oN,oN,oN] 38);refine t _ _ (H.mono f3.size) ?_;clear t K;(try simp only[V]);have b3:=O (b3.kept (T:=fun b=>b<(wf.alloc (.cells #[.string ⟨#[]⟩,oZ,oZ,oZ,oZ,oN,oN,oN,oN] 38)).heap.size/\b≠wf.heap.size) (gE H) (fun b h=>⟨ab h H.size,Nat.ne_of_lt h⟩));have g7:=O (show w2.heap.size<=wf.heap.size from f3.size);have m:=O q;have b5:=O (I f3 H);clear q H;generalize wf.alloc (.cells #[.string ⟨#[]⟩,oZ,oZ,oZ,oZ,oN,oN,oN,oN] 38)=wz at*;refine mm (i:=6) (fun K t=>?_);refine ja z Q S zs R m rfl rfl (.tmp 7) (.tmp 28) rfl rfl rfl ?_;intro w7 h7 e7;have e0:=g7.out;refine t _ _ (by rw[e7];exact ig e0 _ _ (TH _ _)) ?_;clear t K
     have b7:=O (show iP (fun b=>b<w7.heap.size) w7 z Q S zs R by
      rw[e7]
      exact b3.kept ((gK _ _ 0 _).mono (fun b h=>h.2)) (fun b h=>by rw[im];exact h.1))
     have b9:=O (show Below w2 w2 w7 by rw[e7];exact ig e0 _ _ b5);have H7:=O h7;clear h7 e7;refine lH (by kernel_rfl) ?_;(try simp only[V]);go_wp2;go_meet;exact⟨_,z,Q,S,zs,R,rfl,H7,b7,g9,TK H7,b9⟩
    .go_simp
     have H:=(TH wa wa).alloc (aa _) (.cells #[.string ⟨#[]⟩,oZ,oZ,oZ,oZ,oN,oN,oN,oN] 38);have q:=TL wa (.cells #[.string ⟨#[]⟩,oZ,oZ,oZ,oZ,oN,oN,oN,oN] 38);refine t _ _ (H.mono c9.size) ?_;clear t K;(try simp only[V]);have Hy:=O (Hy.go (E:=fun b=>wd.heap.size<=b/\b<wa.heap.size) H (fun b h=>h.2) (fun b h=>h));have g2:=O (VS (aa _):wa.heap.size<wd.heap.size\/wa.heap.size<=wa.heap.size);have g4:=O H.size;have g7:=O (show w2.heap.size<=wa.heap.size from c9.size);have m:=O q;have b5:=O (I c9 H);clear q H;generalize wa.alloc (.cells #[.string ⟨#[]⟩,oZ,oZ,oZ,oZ,oN,oN,oN,oN] 38)=wz at*;refine ia (i:=4) (fun K t=>?_);go_simp;refine(ph y yf yv ys yk n wz (fun b=>wd.heap.size<=b/\b<wa.heap.size) (fun b h=>ab h.2 g4) Hy e8 Hn).mono ?_;rintro e wf ⟨z,Q,S,zs,R,L,hat,e3,-,hq⟩;unfold jG at L;subst L;have b0:Below w2 wz wf:=hq.below (fun b h=>af j1 h.1) b5.size;refine t _ _ b0 ?_;clear t K;try simp only[V]
     have f7:=O (hat.kept (T:=fun b=>b<wf.heap.size/\b≠wa.heap.size) (gN.refl _ _) (fun b h=>by
      have h1:=TK m;have h2:=g2.out;have h3:=hq.size
      obtain h|h:=h
      .exact⟨by have h4:=g4.out;omega,by omega⟩
      .exact⟨h.2,by omega⟩))
     have q:=O ((hq.kept _ ⟨TK m,fun h=>by have h2:=g2.out;omega⟩).trans m);have m:=q;have b3:=f7;have g9:=O e3;have f3:=O (b5.trans b0);clear hat e3 hq b0;refine mm (i:=6) (fun K t=>?_);refine ja z Q S zs R m rfl rfl (.tmp 7) (.tmp 28) rfl rfl rfl ?_;intro w7 h7 e7;have e0:=g7.out;refine t _ _ (by rw[e7];exact ig e0 _ _ (TH _ _)) ?_;clear t K
     have b7:=O (show iP (fun b=>b<w7.heap.size) w7 z Q S zs R by
      rw[e7]
      exact b3.kept ((gK _ _ 0 _).mono (fun b h=>h.2)) (fun b h=>by rw[im];exact h.1))
     have b9:=O (show Below w2 w2 w7 by rw[e7];exact ig e0 _ _ f3);have H7:=O h7;clear h7 e7;refine lH (by kernel_rfl) ?_;(try simp only[V]);go_wp2;go_meet;exact⟨_,z,Q,S,zs,R,rfl,H7,b7,g9,TK H7,b9⟩
   .go_simp
    have H:=(TH wa wa).alloc (aa _) (.cells #[.string ⟨#[]⟩,oZ,oZ,oZ,oZ,oN,oN,oN,oN] 38);have q:=TL wa (.cells #[.string ⟨#[]⟩,oZ,oZ,oZ,oZ,oN,oN,oN,oN] 38);refine t _ _ (H.mono c9.size) ?_;clear t K;(try simp only[V]);have Hy:=O (Hy.go (E:=fun b=>wd.heap.size<=b/\b<wa.heap.size) H (fun b h=>h.2) (fun b h=>h));have g2:=O (VS (aa _):wa.heap.size<wd.heap.size\/wa.heap.size<=wa.heap.size);have g4:=O H.size;have g7:=O (show w2.heap.size<=wa.heap.size from c9.size);have m:=O q;have b5:=O (I c9 H);clear q H;generalize wa.alloc (.cells #[.string ⟨#[]⟩,oZ,oZ,oZ,oZ,oN,oN,oN,oN] 38)=wz at*;refine ia (i:=2) (fun K t=>?_);go_simp;refine t _ _ (TH _ _) ?_;clear t K;(try simp only[V]);(try simp only[I8,dI,dU]);refine ia (i:=4) (fun K t=>?_);go_simp;refine(ph y yf yv ys yk n wz (fun b=>wd.heap.size<=b/\b<wa.heap.size) (fun b h=>ab h.2 g4) Hy e8 Hn).mono ?_;rintro e wf ⟨z,Q,S,zs,R,L,hat,e3,-,hq⟩;unfold jG at L;subst L;have b0:Below w2 wz wf:=hq.below (fun b h=>af j1 h.1) b5.size;refine t _ _ b0 ?_;clear t K;try simp only[V]
    have f7:=O (hat.kept (T:=fun b=>b<wf.heap.size/\b≠wa.heap.size) (gN.refl _ _) (fun b h=>by
     have h1:=TK m;have h2:=g2.out;have h3:=hq.size
     obtain h|h:=h
     .exact⟨by have h4:=g4.out;omega,by omega⟩
     .exact⟨h.2,by omega⟩))
    have q:=O ((hq.kept _ ⟨TK m,fun h=>by have h2:=g2.out;omega⟩).trans m);have m:=q;have b3:=f7;have g9:=O e3;have f3:=O (b5.trans b0);clear hat e3 hq b0;refine mm (i:=6) (fun K t=>?_);refine ja z Q S zs R m rfl rfl (.tmp 7) (.tmp 28) rfl rfl rfl ?_;intro w7 h7 e7;have e0:=g7.out;refine t _ _ (by rw[e7];exact ig e0 _ _ (TH _ _)) ?_;clear t K
    have b7:=O (show iP (fun b=>b<w7.heap.size) w7 z Q S zs R by
     rw[e7]
     exact b3.kept ((gK _ _ 0 _).mono (fun b h=>h.2)) (fun b h=>by rw[im];exact h.1))
    have b9:=O (show Below w2 w2 w7 by rw[e7];exact ig e0 _ _ f3);have H7:=O h7;clear h7 e7;refine lH (by kernel_rfl) ?_;(try simp only[V]);go_wp2;go_meet;exact⟨_,z,Q,S,zs,R,rfl,H7,b7,g9,TK H7,b9⟩
  .go_simp
   have H:=(TH wd wd).alloc (aa _) (.cells #[.string ⟨#[]⟩,oZ,oZ,oZ,oZ,oN,oN,oN,oN] 38);have q:=TL wd (.cells #[.string ⟨#[]⟩,oZ,oZ,oZ,oZ,oN,oN,oN,oN] 38);refine t _ _ (H.mono f8.size) ?_;clear t K;(try simp only[V]);have g7:=O (show w2.heap.size<=wd.heap.size from f8.size);have m:=O q;have b5:=O (I f8 H);clear q H;generalize wd.alloc (.cells #[.string ⟨#[]⟩,oZ,oZ,oZ,oZ,oN,oN,oN,oN] 38)=wz at*;refine ia (i:=1) (fun K t=>?_);go_simp;refine(zW x c s f v k _ (Hx.kept (gE (I H2.b b5)) (fun b h=>ab h (I H2.b b5).size)) hc).mono ?_;rintro e wa ⟨y,yf,yv,ys,yk,yp,L,N,A,-,g1⟩;unfold If at L;subst L;refine t _ _ (g1.mono b5.size) ?_;clear t K;(try simp only[V]);have j1:=O b5.size;have q:=O ((g1.block _ (TK m)).trans m);have g2:=O (VR (TK m):wd.heap.size<wz.heap.size\/wa.heap.size<=wd.heap.size);have m:=q;have Hy:=O N;have e8:=O A;have c9:=O (I b5 g1);clear N A g1;refine ia (i:=2) (fun K t=>?_);go_simp;refine t _ _ (TH _ _) ?_;clear t K;(try simp only[V]);(try simp only[I8,dI,dU]);refine ia (i:=4) (fun K t=>?_);go_simp;refine(ph y yf yv ys yk n wa (fun b=>wz.heap.size<=b/\b<wa.heap.size) (fun b h=>h.2) Hy e8 Hn).mono ?_;rintro e wf ⟨z,Q,S,zs,R,L,hat,e3,-,hq⟩;unfold jG at L;subst L;have b0:Below w2 wa wf:=hq.below (fun b h=>af j1 h.1) c9.size;refine t _ _ b0 ?_;clear t K;try simp only[V]
   have f7:=O (hat.kept (T:=fun b=>b<wf.heap.size/\b≠wd.heap.size) (gN.refl _ _) (fun b h=>by
    have h1:=TK m;have h2:=g2.out;have h3:=hq.size
    obtain h|h:=h
    .exact⟨by omega,by omega⟩
    .exact⟨h.2,by omega⟩))
   have q:=O ((hq.kept _ ⟨TK m,fun h=>by have h2:=g2.out;omega⟩).trans m);have m:=q;have b3:=f7;have g9:=O e3;have f3:=O (c9.trans b0);clear hat e3 hq b0;refine mm (i:=6) (fun K t=>?_);refine ja z Q S zs R m rfl rfl (.tmp 7) (.tmp 28) rfl rfl rfl ?_;intro w7 h7 e7;have e0:=g7.out;refine t _ _ (by rw[e7];exact ig e0 _ _ (TH _ _)) ?_;clear t K
   have b7:=O (show iP (fun b=>b<w7.heap.size) w7 z Q S zs R by
    rw[e7]
    exact b3.kept ((gK _ _ 0 _).mono (fun b h=>h.2)) (fun b h=>by rw[im];exact h.1))
   have b9:=O (show Below w2 w2 w7 by rw[e7];exact ig e0 _ _ f3);have H7:=O h7;clear h7 e7;refine lH (by kernel_rfl) ?_;(try simp only[V]);go_wp2;go_meet;exact⟨_,z,Q,S,zs,R,rfl,H7,b7,g9,TK H7,b9⟩
 case rest=>
  obtain⟨g,z,Q,S,zs,R,rfl,hz,hat,A,hg,n0⟩:=hcut;have i2:=UM z;have g3:=U4 A;have b8:=US A
  have l5:∀W,KW W-> ∀f v s k,iP (fun b=>b<W.heap.size) W z f v s k->Calls prog 7 #[jG z f v s k] W (iZ W (.tuple #[.string (bs (nO z)),oZ])):=fun W hW f v s k ha=>by
   rw[<- OR A];exact CB z f v s k W ha hW.g hW.P hW.T (fun _=>by have:=Gf A;omega)
  rw[i2]at l5;have k1:=O (fun k a b wa wb hA hB i1=>Xm A hat.wf k (a:=a) (b:=b) (wa:=wa) (wb:=wb) hA hB i1);have i0:=O (IX A);have f9:=O (Wx A);have Hz:=O hz;have b3:=O hat;have k8:=O (I H2.b n0);have m2:=O l5;have e8:=O A;have g0:=O g3;have f4:=O b8;have Hg:=O hg;clear hz hat n0 l5 A g3 b8 hg i2 H2
  go_wp2_with(refine it Hz rfl (.tmp 7) rfl rfl ?_)
  refine(m2 _ (Hw.go k8) Q S zs R b3).mono ?_;rintro e w4 ⟨rfl,j2⟩;have m3:=O (Hz.go j2);have j6:=O (b3.go j2);have h9:=O (I k8 j2);have p3:=O (ab Hg j2.size);clear j2 Hz b3 k8 m2 Hg;have k9:Un z=(AI z).map nN:=rfl
  have o4:2<=(Un z).length:=by rw[k9,aU];unfold AI CH;simp
  have k6:=WK (Un z);have b2:=O k9;clear k9;generalize Un z=C at*
  have p4:C.length<=20000:=by have:=f4.out;omega
  clear k6;go_wp2_with fail;refine(Vi (Uj C) w4 (by have:=f4.out;omega)).mono ?_;rintro e w5 ⟨rfl,m6⟩;have j8:=O m6;clear m6;go_wp2_with fail
  have n7:Calls prog 8 #[.string (bs (Uj C)),.string (bs [10])] w5 fun e w'=>e=.returned (.slice (J (w5.heap.size)) C.length C.length)/\w'.heap[w5.heap.size]? =some (.cells (ji C).toArray 9)/\Below w5 w5 w':=by
   refine(Iq (Uj C) w5 (Hw.go (I h9 j8)).g (by have:=f4.out;omega)).mono ?_;rintro e w6 ⟨rfl,rfl⟩;rw[g0];exact⟨rfl,TL w5 _,gY (TH _ _)⟩
  have hgl:w4.heap.size<=w5.heap.size:=j8.size;generalize hgg:w5.heap.size=gl at*;refine n7.mono ?_;rintro e w6 ⟨rfl,h6,m7⟩;have g8:=O h6;have j9:=O (I j8 (show Below w5 w5 w6 by rw[hgg];exact m7));clear n7 h6 m7 j8 hgg g0
  have o3:C.length=(AI z).length:=by rw[b2,aU]
  obtain⟨k,hm,hk⟩:=XR (Hp) o4;obtain⟨a,wa,hA,n1,n5⟩:=Xb (k:=k) f9 i0 (by omega);obtain⟨b,wb,hB,n2,n6⟩:=Xb (k:=k+1) f9 i0 (by omega);have r0:=WA b2 g8 hA;have r1:=WA b2 g8 hB
  have n3:(nN (a::wa)).length<=13000:=by
   have:=WF C k;rw[b2,ah,aR,hA,<- b2]at this;exact af this f4
  have n4:(nN (b::wb)).length<=13000:=by
   have:=WF C (k+1);rw[b2,ah,aR,hB,<- b2]at this;exact af this f4
  have HA:=O hA;have HB:=O hB;have m0:=O n1;have m1:=O n2;have o1:=O n5;have o2:=O n6;have n9:=O n3;have o0:=O n4;clear hA hB n1 n2 n5 n6 n3 n4 o3;go_wp2_with fail;refine(W8 a wa o1 w6 (Hw.go (I h9 j9)).g (by have:=n9.out;omega)).mono ?_;rintro e w7 ⟨v1,v2,rfl,j3⟩;have b9:=O j3;have q0:=(j3.cell (p:=⟨gl,k,none⟩) (TK g8)).trans r0;have q1:=(j3.cell (p:=⟨gl,k+1,none⟩) (TK g8)).trans r1;have i4:=O ((j3.block _ (TK g8)).trans g8);clear j3 r0 r1 g8;go_wp2_with fail;refine(W8 b wb o2 w7 (Hw.go (I h9 (I j9 b9))).g (by have:=o0.out;omega)).mono ?_;rintro e w8 ⟨v3,v4,rfl,l2⟩;have k7:=O (I j9 (I b9 l2));have f5:=O ((l2.block _ (TK i4)).trans i4);clear l2 q0 q1 i4 b9 j9;by_cases i1:a=b
  .subst i1
   go_wp2;go_ret;exact⟨rfl,I h9 k7⟩
  have l8:(a==b)=false:=ak.2 i1;have n8:=O i1;clear i1;go_wp2_with fail;clear l8;have lg:=TK f5;have o5:IntKind.i64.wrap ((k:Int)+1)=(k:Int)+1:=TM _ (by omega)
  have o6:0<=(k:Int)+1:=by omega
  have o7:(k:Int)+1<(C.length:Int):=by omega
  have o8:((k:Int)+1).toNat=k+1:=by omega
  have o9:(k:Int) <(C.length:Int):=by omega
  have q0:=WA b2 f5 HA;have q1:=WA b2 f5 HB;refine ic 15 [2,3,4,10,11,12] [] [(0,true),(1,true),(2,true),(3,true),(4,true),(5,true),(6,true),(7,true),(8,true),(9,true),(10,true),(11,true),(12,true),(13,true),(14,true)] (by kernel_rfl) (by kernel_rfl) ⟨by simp,by simp,fun _ h=>by cases h⟩ (fun _ _ _ _ _ h=>h) (fun _ _ o _ _ h=>by cases o<;>exact h) ?_
  iterate 2
   refine gZ (v:=?_) ?_ ?_;rotate_left
   .intro y N
    skip;go_simp;with_reducible rfl
   try simp only[V]
  iterate 3
   refine iy (v:=?_) ?_ ?_;rotate_left
   .intro y
    go_simp;with_reducible rfl
   try simp only[V]
  iterate 5
   refine gZ (v:=?_) ?_ ?_;rotate_left
   .intro y N
    have y0:=(N.cell (p:=⟨gl,k+1,none⟩) lg).trans q1;go_simp;with_reducible rfl
   try simp only[V]
  iterate 3
   refine iy (v:=?_) ?_ ?_;rotate_left
   .intro y
    go_simp;with_reducible rfl
   try simp only[V]
  iterate 2
   refine gZ (v:=?_) ?_ ?_;rotate_left
   .intro y N
    have y0:=(N.cell (p:=⟨gl,k,none⟩) lg).trans q0;go_simp;with_reducible rfl
   try simp only[V]
  refine jV (l:=[_,_,_]) rfl (fun w9 m8=>?_);(try simp only[V]);have i7:Below w8 w8 w9:=I (jA (TH _ _)) m8;have f0:w9.heap[gl]? =some (.cells (ji C).toArray 9):=(i7.block _ lg).trans f5;have l9:=O (I k7 i7);have x0:=WA b2 f0 HA;have x1:=WA b2 f0 HB;have z0:=gD f0 k;have z1:=gD f0 (k+1)
  have g4:((w9.setCell ⟨gl,k,none⟩ (.string (bs (nN (b::wb))))).setCell ⟨gl,k+1,none⟩ (.string (bs (nN (a::wa))))).heap[gl]? =some (.cells (ji ((Wv (AI z) k (a::wa) (b::wb)).map nN)).toArray 9):=by
   have h1:=gG (gG f0 k (.string (bs (nN (b::wb))))) (k+1) (.string (bs (nN (a::wa))));rw[h1,b2];simp[ji,Wv,List.map_set]
  have m9:Below w4 w4 ((w9.setCell ⟨gl,k,none⟩ (.string (bs (nN (b::wb))))).setCell ⟨gl,k+1,none⟩ (.string (bs (nN (a::wa))))):=qo (qo l9 hgl) hgl;have j0:=O (And.intro g4 m9);clear m8 i7 f0 q0 q1 g4 m9 k7 f5;go_wp2_with fail;generalize(w9.setCell ⟨gl,k,none⟩ (.string (bs (nN (b::wb))))).setCell ⟨gl,k+1,none⟩ (.string (bs (nN (a::wa))))=wq at*;clear x0 x1 z0 z1 l9;obtain⟨hl,l3,i8⟩:=k1 k a b wa wb HA HB n8;rw[<- XJ]at hl l3 i8
  have b8:((Wv (AI z) k (a::wa) (b::wb)).map nN).length=C.length:=by rw[b2,aU,aU];unfold Wv;rw[dL,dL]
  have l4:=xx ((Wv (AI z) k (a::wa) (b::wb)).map nN) gl 0 C.length wq (fun i x hx=>by
   rw[aV,VV j0.1 i,bo];unfold ji;rw[aR,hx];rfl) (TK j0.1) (by omega) (by omega) (by omega) (fun h=>by rw[h]at b8;simp at b8;omega)
  rw[b8]at l4;generalize rm ((Wv (AI z) k (a::wa) (b::wb)).map nN)=T at*;have k2:=O l3;have l7:=O i8;have Hl:=O hl;clear l3 i8 hl b8 o5 o6 o7 o8 o9;refine l4.mono ?_;rintro e p0 ⟨rfl,i5⟩;have f2:=O (I h9 (I j0.2 i5));have k0:=O (I j0.2 i5);clear i5 l4 j0 HA HB k1;go_wp2_with fail;refine(vE T p0 (Hw.go f2).g (Hw.go f2).T (Hw.go f2).P (by have:=Hl.out;omega)).mono ?_;generalize nr T=r at*;obtain⟨u,rl,re⟩:=r;rintro e h5 ⟨f',v',s',k',L,hL,i6⟩;simp only at L hL;unfold jG at L;subst L;have HL:=O hL;have j7:=O (I f2 i6);have i3:=O (I k0 i6);clear hL i6 f2 k0;go_upto_region 18 with fail;refine gI (fun wx=>hU wx h5 38 u f' v' s' k'/\Below h5 h5 wx) ⟨TL h5 _,gY (TH _ _)⟩ ?_;generalize hgu:h5.heap.size=gu;rintro l6 ⟨m4,k3⟩
  have b6:Below h5 h5 l6:=by rw[hgu];exact k3
  have j5:=O m4;have g5:=O (HL.go b6);have g6:=O (m3.go (I i3 b6));have e5:=O (j6.go (I i3 b6));have e6:=O (I j7 b6);clear m4 k3 b6 HL m3 j6 j7 i3 hgu h9;by_cases na:a∈kV
  .have h0:=O (show a∈kV\/b∈kV\/a=lj\/b=lj from VR na)
   go_wp2_with fail;have hh:=Wz a m0 l6 (Hw.go e6).g;rw[aP na]at hh;refine hh.mono ?_;rintro e k4 ⟨rfl,D⟩;clear hh;have h8:=O (j5.go D);have e4:=O (g5.go D);have e9:=O (g6.go D);have a9:=O (e5.go D);have X:=O (I e6 D);clear D j5 g5 g6 e5 e6;by_cases L:re=0
   .subst L
    have Hu:=O (show¬u=z from(k2 (h0)).resolve_left (fun h=>h rfl));obtain⟨c0,c1,c2,c3,c4,c5,c6,c7,c8⟩:=h8.cells;obtain⟨d0,d1,d2,d3,d4,d5,d6,d7,d8⟩:=e9.cells;go_wp2_with fail;have M:=Wk u z f' v' s' k' Q S zs R k4 e4 a9 false (fun h=>absurd h Hu) (fun _=>rfl);unfold jG at M;refine M.mono ?_;rintro e k5 ⟨rfl,B⟩;have a8:=O (I X B);clear B M c0 c1 c2 c3 c4 c5 c6 c7 c8 d0 d1 d2 d3 d4 d5 d6 d7 d8;go_wp2;go_ret;exact⟨rfl,a8⟩
   .go_wp2
    go_ret;exact⟨rfl,X⟩
  .skip
   go_wp2_with fail;have hh:=Wz a m0 l6 (Hw.go e6).g;rw[aw na]at hh;refine hh.mono ?_;rintro e k4 ⟨rfl,D⟩;clear hh;have h8:=O (j5.go D);have e4:=O (g5.go D);have e9:=O (g6.go D);have a9:=O (e5.go D);have X:=O (I e6 D);clear D j5 g5 g6 e5 e6;by_cases nb:b∈kV
   .have h0:=O (show a∈kV\/b∈kV\/a=lj\/b=lj from VS (VR nb))
    go_wp2_with fail;have hh:=Wz b m1 k4 (Hw.go X).g;rw[aP nb]at hh;refine hh.mono ?_;rintro e j4 ⟨rfl,F⟩;clear hh;have i9:=O (h8.go F);have f1:=O (e4.go F);have f6:=O (e9.go F);have b4:=O (a9.go F);have b1:=O (I X F);clear F h8 e4 e9 a9 X;by_cases L:re=0
    .subst L
     have Hu:=O (show¬u=z from(k2 (h0)).resolve_left (fun h=>h rfl));obtain⟨c0,c1,c2,c3,c4,c5,c6,c7,c8⟩:=i9.cells;obtain⟨d0,d1,d2,d3,d4,d5,d6,d7,d8⟩:=f6.cells;go_wp2_with fail;have M:=Wk u z f' v' s' k' Q S zs R j4 f1 b4 false (fun h=>absurd h Hu) (fun _=>rfl);unfold jG at M;refine M.mono ?_;rintro e k5 ⟨rfl,B⟩;have a8:=O (I b1 B);clear B M c0 c1 c2 c3 c4 c5 c6 c7 c8 d0 d1 d2 d3 d4 d5 d6 d7 d8;go_wp2;go_ret;exact⟨rfl,a8⟩
    .go_wp2
     go_ret;exact⟨rfl,b1⟩
   .skip
    go_wp2_with fail;have hh:=Wz b m1 k4 (Hw.go X).g;rw[aw nb]at hh;refine hh.mono ?_;rintro e j4 ⟨rfl,F⟩;clear hh;have i9:=O (h8.go F);have f1:=O (e4.go F);have f6:=O (e9.go F);have b4:=O (a9.go F);have b1:=O (I X F);clear F h8 e4 e9 a9 X;by_cases ca:a=lj
    .have h0:=O (show a∈kV\/b∈kV\/a=lj\/b=lj from VS (VS (VR ca)))
     have ba:(a==[99,104,97,110,103,101])=true:=by rw[ca];decide
     have p1:=O ca;clear ca;by_cases L:re=0
     .subst L
      have Hu:=O (show¬u=z from(k2 (h0)).resolve_left (fun h=>h rfl));obtain⟨c0,c1,c2,c3,c4,c5,c6,c7,c8⟩:=i9.cells;obtain⟨d0,d1,d2,d3,d4,d5,d6,d7,d8⟩:=f6.cells;go_wp2_with fail;have M:=Wk u z f' v' s' k' Q S zs R j4 f1 b4 false (fun h=>absurd h Hu) (fun _=>rfl);unfold jG at M;refine M.mono ?_;rintro e k5 ⟨rfl,B⟩;have a8:=O (I b1 B);clear B M c0 c1 c2 c3 c4 c5 c6 c7 c8 d0 d1 d2 d3 d4 d5 d6 d7 d8;go_wp2;go_ret;exact⟨rfl,a8⟩
     .go_wp2
      go_ret;exact⟨rfl,b1⟩
    have ba:(a==[99,104,97,110,103,101])=false:=ak.2 ca;by_cases cb:b=lj
    .have h0:=O (show a∈kV\/b∈kV\/a=lj\/b=lj from VS (VS (VS cb)))
     have bb:(b==[99,104,97,110,103,101])=true:=by rw[cb];decide
     have p2:=O cb;clear cb ca;by_cases L:re=0
     .subst L
      have Hu:=O (show¬u=z from(k2 (h0)).resolve_left (fun h=>h rfl));obtain⟨c0,c1,c2,c3,c4,c5,c6,c7,c8⟩:=i9.cells;obtain⟨d0,d1,d2,d3,d4,d5,d6,d7,d8⟩:=f6.cells;go_wp2_with fail;have M:=Wk u z f' v' s' k' Q S zs R j4 f1 b4 false (fun h=>absurd h Hu) (fun _=>rfl);unfold jG at M;refine M.mono ?_;rintro e k5 ⟨rfl,B⟩;have a8:=O (I b1 B);clear B M c0 c1 c2 c3 c4 c5 c6 c7 c8 d0 d1 d2 d3 d4 d5 d6 d7 d8;go_wp2;go_ret;exact⟨rfl,a8⟩
     .go_wp2
      go_ret;exact⟨rfl,b1⟩
    have bb:(b==[99,104,97,110,103,101])=false:=ak.2 cb;have hr:=l7 (fun h=>by obtain h|h|h|h:=h;exact na h;exact nb h;exact ca h;exact cb h);clear ca cb na nb
    injection hr with hr1 hr2 hr3
    subst hr1 hr2 hr3;obtain⟨c0,c1,c2,c3,c4,c5,c6,c7,c8⟩:=i9.cells;obtain⟨d0,d1,d2,d3,d4,d5,d6,d7,d8⟩:=f6.cells;go_wp2_with fail;have M:=Wk u u f' v' s' k' Q S zs R j4 f1 b4 true (fun _=>rfl) (fun h=>absurd rfl h);unfold jG at M;refine M.mono ?_;rintro e k5 ⟨rfl,B⟩;have a8:=O (I b1 B);clear B M c0 c1 c2 c3 c4 c5 c6 c7 c8 d0 d1 d2 d3 d4 d5 d6 d7 d8;go_wp2;go_ret;exact⟨rfl,a8⟩
