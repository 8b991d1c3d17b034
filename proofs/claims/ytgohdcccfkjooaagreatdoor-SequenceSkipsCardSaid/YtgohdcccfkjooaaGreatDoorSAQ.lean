import Derived.Test.YtgohdcccfkjooaaGreatDoorSAM
import Derived.RangeFuncNested
import Derived.RangeFuncBound
import Derived.OwnWalkIn
import Derived.TacticsInMore
import Derived.LoopNIn
import Derived.LoopIn
import Derived.RecoverIn
namespace Go.Proofs.YtgohdcccfkjooaaGreatDoor
set_option linter.all false
set_option maxRecDepth 100000
set_option maxHeartbeats 1600000
open Go.Proofs.Tryz Go.RowKit
def js(z:Int)(d:Nat)(w)(h1: -9223372036854775808<=z)(h2:z<=9223372036854775807)(f:d<=18)(b:GW w):Calls prog 42 #[z,.int .i64 (d:Int)] w (iZ w (.string (bs (iz z d)))):=by
 go_enter func42,ntmps42;go_wp2_with fail;refine(Fs z d w h1 h2 f b).mono ?_;rintro e g ⟨rfl,a⟩;have c:=O a;clear a b;go_wp2_with fail;go_ret;exact⟨rfl,c⟩
def PT(w b p v)(a:w.heap[b]? =some (.cells #[p,v] 108 (0,0))):(convert 84 198 (.pointer (J b))).run prog w=.ok (.pointer (J b)) w:=by
 obtain⟨i,hi⟩:∃i,prog.info? 86=some i/\i.size≠0:=by
  have h:(prog.info? 86).any (fun i=>decide (i.size≠0))=true:=by kernel_rfl
  cases hi:prog.info? 86 with
  |none=>rw[hi]at h;cases h
  |some i=>rw[hi]at h;exact⟨i,rfl,by simpa using h⟩
 exact Lib.run_to_unsafe (e:=108) (cells:=2) _ _ underlying84 underlying198 hi.1 hi.2 (by simp[World.shape?,a]) (by show 0<2;omega)
def Lu(w b p v)(a:w.heap[b]? =some (.cells #[p,v] 108 (0,0))):(convert 198 84 (.pointer (J b))).run prog w=.ok (.pointer (J b)) w:=by
 obtain⟨i,hi⟩:∃i,prog.info? 86=some i:=by
  have h:(prog.info? 86).isSome=true:=by kernel_rfl
  exact eL.1 h
 exact Lib.run_from_unsafe (e:=108) (cells:=2) _ _ underlying198 underlying84 hi (by simp[World.shape?,a]) (by kernel_rfl)
def NO(w b):(binOp .neq 84 (.pointer (J b)) (.pointer (J b))).run prog w=.ok (.bool false) w:=by
 obtain⟨i,hi⟩:∃i,prog.info? 86=some i:=by
  have h:(prog.info? 86).isSome=true:=by kernel_rfl
  exact eL.1 h
 exact Lib.run_neq_ptr_same w _ underlying84 hi
def rE{w:World}{B e k n v xs b}(h:w.ownsRow B e k v n xs)(a:v.ownBlock≠some b)(j u):(w.setCell ⟨b,j,none⟩ u).ownsRow B e k v n xs:=by
 obtain⟨h1,h2⟩:=h;refine⟨h1,?_⟩
 obtain h2|⟨g,cap,cells,rfl,hg,hc,hrest⟩:=h2
 .exact VR h2
 .exact VS ⟨g,cap,cells,rfl,hg,(TI _ _ _ _ (fun e=>a (by rw[e];rfl))).trans hc,hrest⟩
def kY(b:Nat)(w w':World):Prop:=∀(k:Nat)(cs:Array Value)(T:TypeId)(fr:Nat×Nat),w.heap[k]? =some (.cells cs T fr)->T≠5->k≠b->w'.heap[k]? =some (.cells cs T fr)
def kY.refl(b w):kY b w w:=fun _ _ _ _ h _ _=>h
def kY.trans{b w d e}(h1:kY b w d)(h2:kY b d e):kY b w e:=fun k cs T fr h a c=>h2 k cs T fr (h1 k cs T fr h a c) a c
def kY.below{b}{w w':World}(h:Below w w w'):kY b w w':=fun k cs T fr a _ _=>(h.block k (TK a)).trans a
def kY.put{b j w w' u}(h:kY b w w'):kY b w (w'.setCell ⟨b,j,none⟩ u):=fun k cs T fr d c a=>(TI _ _ _ _ (fun e=>a e)).trans (h k cs T fr d c a)
def kY.grown{b B n m w c w' v xs}(h:kY b w c)(a:c.ownsRow B 5 m v n xs)(i:c.grownBy w' v.ownBlock):kY b w w':=fun k cs T fr j d f=>by
 have h1:=h k cs T fr j d f;refine(i.block k (TK h1) (fun e=>?_)).trans h1
 obtain ⟨rfl,_⟩|⟨g,cap,l,rfl,_,h2,_⟩:=a.2
 .cases e
 .cases e
  rw[h2]at h1;cases h1;exact d rfl
def DC(x w):(callFunc 99 #[x]).run prog w=.ok (.value x) w:=by kernel_rfl
def Fw(B b xs w)(h:Lib.IsBuilder 108 5 B b xs w):
 Calls prog 62 #[U b] w fun e w'=>e=.returned (.tuple #[])/\Lib.BuilderAt 108 5 B b (.pointer (J b)) xs w'/\Below B w w'/\kY b w w':=by
 obtain ⟨h1,v,h2,h3,a⟩|⟨h1,v,h2,h3,a⟩:=h
 .have c0:=gA h2 0
  have f0:=gD h2 0;have k1:=PT w b _ _ h2;have g:=Lu w b _ _ h2;have f:=DC (.pointer (J b)) w;have c:=O h2;have d:=O h3;clear h2 h3;go_enter func62,ntmps62;go_wp2_with fail;go_end0;exact⟨rfl,⟨h1,v,gG c 0 _,rE d a 0 _,a⟩,(TH B w).setCell (p:=J b) h1 _,(kY.refl b w).put⟩
 .have c0:=gA h2 0
  have f:=NO w b;have c:=O h2;have d:=O h3;clear h2 h3;go_enter func62,ntmps62;go_wp2_with fail;go_end0;exact⟨rfl,⟨h1,v,c,d,a⟩,TH _ _,kY.refl _ _⟩
def RC:(prog.info? 5).map (fun i=>(i.zero,i.size,i.bytes))=some (some (.int .u8 0),1,1):=by kernel_rfl
def Iz(B b l m w)(h:Lib.IsBuilder 108 5 B b (Lib.byteCells l) w)(Q:l.length+m.length<=1000000)(P:B<=w.heap.size):
 Calls prog 60 #[U b,.string (bs m)] w fun e w'=>e=.returned (.tuple #[m.length,.nilIface])/\Lib.IsBuilder 108 5 B b (Lib.byteCells (l++m)) w'/\Below B w w'/\kY b w w':=by
 obtain⟨L,hi,C,D,E⟩:=info_parts RC;have z:(Lib.byteCells l).length=l.length:=Lib.byteCells_length l;have A:(bs m).size=m.length:=rfl;go_enter func60,ntmps60;go_wp2_with fail;refine(Fw B b _ w h).mono ?_;rintro e R ⟨rfl,⟨h1,v,h2,h3,H⟩,i,q⟩;have c1:=gA h2 1;have hlt:=TK h2
 go_wp2_with(at_builtin;refine Lib.wpList_append_own_string _ rfl _ _ 24 9 rfl B 5 L underlying24 underlying9 hi C D E _ _ _ rfl h3 (bs m) rfl ?c3 ?c4 ?c5 ?_)
 case c3=>unfold maxLen;omega
 case c4=>omega
 case c5=>have:=i.size;omega
 intro t F c a _;have j:F.heap[b]? =some (.cells #[U b,v] 108 (0,0)):=(a.block b hlt (fun e=>H e.symm)).trans h2;have N:=gA j 1;have f1:=gD j 1;have o:=(i.grown a (by have:=i.size;omega) (fun k K=>(h3.lt k K).1)).setCell (p:=⟨b,1,none⟩) h1 t;have r:kY b w (F.setCell ⟨b,1,none⟩ t):=(q.grown h3 a).put;have d:=Lib.BuilderAt.put (T:=108) (e:=5) h1 j (bs':=Lib.byteCells l++Lib.strCells (bs m)) (by rw[al,Lib.strCells_length,z,A];exact c) (by decide);have f:Lib.byteCells l++Lib.strCells (bs m)=Lib.byteCells (l++m):=(Lib.byteCells_append l m).symm;rw[f]at d
 obtain⟨y,n',cap,rfl⟩:∃y n' cap,t=.slice y n' cap:=by
  obtain ⟨s,_⟩|⟨g,cap,M,s,_⟩:=c.2
  .exact⟨_,_,_,s⟩
  .exact⟨_,_,_,s⟩
 have u:=O o;have n:=O d;have x:=O r;clear o d r q f c a h3 c1;go_wp2_with fail;go_ret2;exact⟨rfl,VS n.out,u,x⟩
structure TB (t:List UInt8) (Iq0:Nat->Nat->World->Prop) (Ix:List PanicEntry->World->Prop) (l n:Nat):Prop where
 lines:∀g i W,Iq0 g i W->W.heap[g]? =some (.cells (ji (io [] t)).toArray 9 (0,0))
 gw:∀g i W,Iq0 g i W->GW W
 go:∀g i W W',Iq0 g i W->Below W.heap.size W W'->Iq0 g i W'
 skip:∀g i W s,Iq0 g i W->(io [] t)[i]? =some s->ti (iA [] s)=true->Iq0 g (i+1) W
 yield:∀g i W s A,Iq0 g i W->(io [] t)[i]? =some s->ti (iA [] s)=false->ua W (J A) (iA [] s).length (iA [] s).length (iA [] s) W.heap.size->
  YieldAt Fence.wide n prog l #[.int .i64 ((i:Int)+1),Z (J A) (iA [] s).length (iA [] s).length] W fun e W'=>
   (e=.returned (.bool true)/\Iq0 g (i+1) W')\/ ∃chain,e=.panicked chain/\Ix chain W'
def IA(t:List UInt8)(b:Nat->Nat->World->Prop)(c:List PanicEntry->World->Prop)(e:Ending)(w':World):Prop:=
 (e=.returned (.tuple #[])/\ ∃g,b g (io [] t).length w')\/ ∃a,e=.panicked a/\c a w'
def Lv(t)(d:Nat->Nat->World->Prop)(z:List PanicEntry->World->Prop)(l n b w)(hI:TB t d z l n)(B:w.cell? (J b)=some (.string (bs t)))(hg:GW w)(ht:t.length<=100000)(h0:d w 0 (w.alloc (.cells (ji (io [] t)).toArray 9))):
 Calls prog 87 #[.func (.yield l) #[] #[],U b] w (IA t d z):=by
 have r:=O hI;have Hg:=O hg;have hN:=qI t [];have F:=uF t [];have a0:=O F;clear hI hg F;go_enter func87,ntmps87;go_wp2_with fail;refine(Iq t w Hg (by omega)).mono ?_;rintro e w1 ⟨rfl,rfl⟩;generalize(w.alloc (.cells (ji (io [] t)).toArray 9))=w1 at*;generalize w.heap.size=g at*;have H0:=O h0;clear h0 B Hg;obtain⟨N,H⟩:∃N,(io [] t).length=N:=⟨_,rfl⟩;rw[H]at hN⊢;go_upto_region 1 with fail
 go_loopw [9] (fun iv wr=>∃i:Nat,i<=N/\iv=.int .i64 (i:Int)/\d g i wr) (fun iv _=>N-(intOf iv).toNat)
 case atStart=>exact⟨0,aA _,rfl,H0⟩
 case round=>
  clear H0;obtain⟨i,hi,rfl,K⟩:=hrel;have u:=O K;clear K;by_cases a7:i<N
  .obtain⟨s,C⟩:∃s,(io [] t)[i]? =some s:=⟨(io [] t)[i]'(by omega),ae _⟩
   have c0:wr.cell? ⟨g,i,none⟩=some (.string (bs s)):=by
    rw[gA (r.lines g i wr u) i,bo,ji,aR,C];rfl
   have a4:s.length<=1000000:=by have:=a0 s (aL C);simp at this;omega
   have Hs:=O C;clear C;go_wp2_with fail;refine(Ir s wr a4).mono ?_;rintro e D ⟨A,rfl,hw,B⟩;have x:=O hw;have E:=O (r.go g i wr D u B)
   have P:=fun v hv=>uE s [] v hv
   have a1:=O P;have Q:=r.skip g i D s E Hs;have S:=r.yield g i D s A E Hs;have b0:=pH s [];have k:=O Q;have m:=O S;clear B c0 u P Q S;generalize iA [] s=ws at*
   cases ws with
   |nil=>
    have j:=O (k rfl);clear k m x hw;go_wp2_with fail
    go_roundw
    case rel=>exact⟨i+1,by omega,by go_num,j⟩
    case measure=>simp[intOf];omega
   |cons wd p=>
    have R:=a1 wd aG
    cases wd with
    |nil=>exact absurd rfl R
    |cons y c=>
     clear R
     have a6:D.cell? (J A)=some (.string (bs (y::c))):=by
      obtain⟨q,off,e1,e2,e3⟩:=hw.2.2 (by simp);cases e1;exact e3 0 _ rfl
     have a9:(((y::c)::p).length:Int)≠0:=by simp;omega
     have a8:((y::c)::p).length<=1000010:=by omega
     clear hw;by_cases a:y=35
     .have j:=O (k (by subst a;rfl))
      have a3:(((bs (y::c))[0]'(by show 0<(y::c).length;simp)).toNat:Int)=35:=by
       show(y.toNat:Int)=35
       subst a;rfl
      clear a k m x;go_wp2_with fail
      go_roundw
      case rel=>exact⟨i+1,by omega,by go_num,j⟩
      case measure=>simp[intOf];omega
     .have h:ti ((y::c)::p)=false:=by
       show((some y:Option UInt8)==some 35)=false
       rw[ak];intro e;exact a (aE e)
      have a3:¬(((bs (y::c))[0]'(by show 0<(y::c).length;simp)).toNat:Int)=35:=by
       show¬(y.toNat:Int)=35
       intro e
       have a2:y.toNat=(35:UInt8).toNat:=by
        show y.toNat=35
        omega
       exact a (UInt8.toNat.inj a2)
      obtain⟨fn,tm,a5,bd,X,hR⟩:=m h x;rw[aH]at X;have T:=O hR;clear a k m x h hR;go_upto_region 4 with fail;refine(wpIn_wide (n:=n+1)).1 ?_
      gi_wp2
      refine T.mono ?_;rintro e w3 (⟨rfl,L⟩|⟨f,rfl,M⟩)
      .have j:=O L
       clear L T X
       gi_wp2
       go_wp2_with fail
       go_roundw
       case rel=>exact⟨i+1,by omega,by go_num,j⟩
       case measure=>simp[intOf];omega
      .have o:IA t d z (.panicked f) w3:=VS ⟨f,rfl,M⟩
       have W:=O o;clear o M T X
       gi_wp2
       exact⟨rfl,W⟩
  .obtain rfl:i=N:=by omega
   have o:IA t d z (.returned (.tuple #[])) wr:=VR ⟨rfl,g,by rw[H];exact u⟩;have W:=O o;clear o;go_wp2_with fail;go_end0;exact W
def Fx(p q n w):
 CallsDIn Fence.wide n prog 50 #[.pointer (some p),.pointer (some q)] .returning w fun e d w'=>e=.returned (.tuple #[])/\d=.returning/\w'=w:=by
 refine callsDIn_of_wpSIn func50 rfl trivial fun a cs c=>?_
 apply wpSIn_seq;apply wpSIn_region;simp[wpOpsSIn,go_sem,recoverD,c,ntmps50,Exit.thenS];refine wpSIn_of_wpIn rfl ((wpIn_wide (n:=n)).2 (wp_mono (Q:=fun e a' w'=>e=.normal/\a'.defers=[]/\w'=w) ?_ ?_))
 .go_wp2_with fail
 .rintro e a' w' ⟨rfl,b,rfl⟩
  exact⟨b,_,by cases a;simp_all,_,by simp[results,results50],rfl,rfl,rfl⟩
def NQ(p q:Nat)(w w':World):Prop:=hU w' p 37 lz ij ij ij ij/\w'.heap[q]? =some (.cells #[.int .i64 5] 44 (0,0))/\(∀k,k<w.heap.size->k≠p->k≠q->w'.heap[k]? =w.heap[k]?)/\Below (min p q) w w'
def xp(p q)(m:p≠q)(a n w){cs e0}(s:w.heap[p]? =some (.cells cs 37 (0,0)))(F:cs.size=9)(t:w.heap[q]? =some (.cells #[e0] 44 (0,0))):
 CallsDIn Fence.wide n prog 50 #[U p,U q] (.panicking ({v:=.iface 124 (.agg #[]),recovered:=false}::a)) w fun e M w'=>
  e=.returned (.tuple #[])/\M=.panicking ({v:=.iface 124 (.agg #[]),recovered:=true}::a)/\NQ p q w w':=by
 refine callsDIn_of_wpSIn func50 rfl trivial fun W cs u=>?_
 apply wpSIn_seq;apply wpSIn_region;simp[wpOpsSIn,go_sem,recoverD,u,ntmps50,Exit.thenS];refine wpSIn_of_wpIn rfl ((wpIn_wide (n:=n)).2 (wp_mono (Q:=fun e a' w'=>e=.normal/\a'.defers=[]/\NQ p q w w') ?_ ?_));rotate_left
 .rintro e a' w' ⟨rfl,r,K⟩
  exact⟨r,_,rfl,_,by simp[results,results50],rfl,rfl,K⟩
 have D:=TK s;have E:=TK t;have f:=(TH w w).alloc (aa _) (.cells #[] 124);have l:=(f.block p D).trans s;have h:=(f.block q E).trans t;have r:=gA h 0;have C:=gD h 0;have y:=O l;have z:=O h;have j:=O f;have T:=O u;clear l h f s t u
 have S:∀x:World,(Instr.typeAssert (.iface 124 (.agg #[])) 20 124 true).run prog x=.ok (.tuple #[.agg #[],true]) x:=fun _=>by kernel_rfl
 go_upto_region 7 with fail
 have R:w.heap.size<(w.alloc (.cells #[] 124)).heap.size:=by simp
 generalize(w.alloc (.cells #[] 124))=w1 at*;clear r C
 have g:∀d:World,d=w1.setCells p 0 (iw lz ij ij ij ij)->d.heap[q]? =some (.cells #[e0] 44 (0,0)):=fun d i=>by
  rw[i];exact(gK p _ 0 w1 q (fun e=>m e.symm)).trans z
 have c:=O g;clear g
 go_wp2_with(refine ja lz ij ij ij ij y F rfl (.tmp 0) (.tmp 11) rfl rfl rfl ?_;intro d h2 i;have N:=gA (c d i) 0;have P:=gD (c d i) 0;have H:=O h2;have o:=O i;clear h2 i)
 have A:=O (c _ o);refine⟨?_,gG A 0 (.int .i64 5),?_,?_⟩
 .exact gF H (J q) (fun e=>m e.symm) (.int .i64 5)
 .intro k L h1 h2
  refine(TI _ _ _ _ (fun e=>h2 e)).trans ?_;rw[o];exact(gK p _ 0 w1 k h1).trans (j.block k L)
 .have B:Below (min p q) w d:=by
   rw[o];exact ig (b:=p) (Nat.min_le_left _ _) _ _ (j.mono (by omega))
  exact B.setCell (p:=J q) (Nat.min_le_right _ _) _
def yN(r:jL)(f v s k:iJ)(m:Value):List Value:=iw r.x f v s k++[.int .i64 r.at_,m]
def nx(w:World)(g:Nat)(r:jL)(f v s k:iJ)(m:Value):Prop:=w.heap[g]? =some (.cells (yN r f v s k m).toArray 128 (0,0))
def pI(Rd:Nat->(Nat->Prop)->jL->World->Prop)(g c:Nat)(D:Nat->Prop)(r:jL)(ws:List (List UInt8))(W:World)(e:Ending)(W':World):Prop:=
 Below g W W'/\(∀k,k<W.heap.size-> ¬D k->W'.heap[k]? =W.heap[k]?)/\
  ((∃q,kp r ws=some q/\e=.returned (.tuple #[])/\ ∃D':Nat->Prop,(∀b,D' b->D b\/W.heap.size<=b)/\Rd (c+1) D' q W')\/(kp r ws=none/\e=iX))
structure vD (B g:Nat) (Rd:Nat->(Nat->Prop)->jL->World->Prop):Prop where
 lens:∀c D r W,Rd c D r W-> ∃f v s k m,nx W g r f v s k m/\iP (fun b=>B<=b/\b<W.heap.size) W r.x f v s k
 own:∀c D r W b,Rd c D r W->D b->(b=g\/B<=b)/\b<W.heap.size
 kept:∀c D r W W',Rd c D r W->(∀k,k=g\/B<=k->k<W.heap.size->W'.heap[k]? =W.heap[k]?)->W.heap.size<=W'.heap.size->Rd c D r W'
 read:∀c D r W ws A,Rd c D r W->ua W (J A) ws.length ws.length ws W.heap.size->ws≠[]->(∀s∈ws,s.length<=100000)->ws.length<=100001->c<=100001->B<=W.heap.size->GW W->TW g W->
  Calls prog 52 #[U g,Z (J A) ws.length ws.length] W (pI Rd g c D r ws W)
def TW.mono{N M w}(h:TW N w)(b:N<=M):TW M w:=by
 refine⟨af h.glo b,h.par,?_,h.oth.mono b,h.rdr.mono b,?_⟩
 .obtain⟨a,n,c,h1,h2⟩:=h.ord
  exact⟨a,n,c,h1,h2.kept (fun _ _=>rfl) b⟩
 .obtain⟨a,n,c,h1,h2⟩:=h.kin
  exact⟨a,n,c,h1,h2.kept (fun _ _=>rfl) b⟩
structure tl (N:Nat) (w W:World):Prop where
 len:hU W N 37 lz ij ij ij ij
 err:W.heap[N+2]? =some (.cells #[oZ] 44 (0,0))
 ptr:W.heap[N+4]? =some (.cells #[U (N+3)] 125 (0,0))
 dfr:W.heap[N+6]? =some (.deferred (some []))
 bel:Below N w W
 gw:GW W
 tw:TW N W
 sz:N+8<=W.heap.size
def tl.kept{N w W W'}(h:tl N w W)(d:14<=N)(c:∀k,k<N+7->k≠N+3->k≠N+1->W'.heap[k]? =W.heap[k]?)(a:Below N W W'):tl N w W':=
 ⟨(c N (by omega) (by omega) (by omega)).trans h.len,(c (N+2) (by omega) (by omega) (by omega)).trans h.err,(c (N+4) (by omega) (by omega) (by omega)).trans h.ptr,(c (N+6) (by omega) (by omega) (by omega)).trans h.dfr,
   h.bel.trans a,h.gw.kept (fun b hlt=>a.block b (by omega)) (by have:=h.gw.sz;have:=a.size;have:=h.sz;omega),h.tw.below a,by have:=a.size;have:=h.sz;omega⟩
structure yF (Rd:Nat->(Nat->Prop)->jL->World->Prop) (N:Nat) (w:World) (t:List UInt8) (rc:Loop) (gl i:Nat) (W:World):Prop where
 base:tl N w W
 line:∃n:Int,W.heap[N+1]? =some (.cells #[n] 3 (0,0))
 loop:W.heap[N+7]? =some (.loop rc)
 lines:W.heap[gl]? =some (.cells (ji (io [] t)).toArray 9 (0,0))
 hgl:N+8<=gl
 rd:∃(c:Nat)(D:Nat->Prop)(r:jL),c<=i/\lR 0 Ae (io [] t)=lR i r ((io [] t).drop i)/\Rd c D r W/\ ¬D gl
structure LA (N:Nat) (w:World) (t:List UInt8) (chain:List PanicEntry) (W:World):Prop where
 ch:chain=[{v:=.iface 124 (.agg #[]),recovered:=false}]
 base:tl N w W
 no:∃n:Nat,lR 0 Ae (io [] t)=.error n/\W.heap[N+1]? =some (.cells #[.int .i64 (n:Int)] 3 (0,0))
def yO{α:Type}{L:List α}{i s}(h:L[i]? =some s):L.drop i=s::L.drop (i+1):=by
 have hi:=(TG.1 h).1;rw[dG hi,(TG.1 h).2]
def Fy{L:List (List UInt8)}{i s}(r)(h:L[i]? =some s)(a:ti (iA [] s)=true):lR i r (L.drop i)=lR (i+1) r (L.drop (i+1)):=by
 rw[yO h,lR,aq a]
def LB{L:List (List UInt8)}{i s r q}(h:L[i]? =some s)(b:ti (iA [] s)=false)(a:kp r (iA [] s)=some q):lR i r (L.drop i)=lR (i+1) q (L.drop (i+1)):=by
 rw[yO h,lR,aj (by rw[b];simp),a]
def LC{L:List (List UInt8)}{i s r}(h:L[i]? =some s)(b:ti (iA [] s)=false)(a:kp r (iA [] s)=none):lR i r (L.drop i)=.error (i+1):=by
 rw[yO h,lR,aj (by rw[b];simp),a]
def yF.go{Rd:Nat->(Nat->Prop)->jL->World->Prop}{N w t d gl i W W'}(g:vD (N+8) (N+3) Rd)(f:14<=N)(h:yF Rd N w t d gl i W)(b:Below W W W'):yF Rd N w t d gl i W':=by
 have l:=h.base.sz
 have a:∀k,k<W.heap.size->W'.heap[k]? =W.heap[k]? :=fun k a=>b.block k a
 obtain⟨n,j⟩:=h.line;obtain⟨c,D,r,h1,h2,h3,e⟩:=h.rd
 exact⟨h.base.kept f (fun k hlt _ _=>a k (by omega)) (b.mono (by omega)),⟨n,(a _ (by omega)).trans j⟩,(a _ (by omega)).trans h.loop,(a _ (TK h.lines)).trans h.lines,h.hgl,
  c,D,r,h1,h2,g.kept c D r W W' h3 (fun k _ hlt=>a k hlt) b.size,e⟩
def yF.skip{Rd:Nat->(Nat->Prop)->jL->World->Prop}{N w t a gl i W s}(h:yF Rd N w t a gl i W)(e:(io [] t)[i]? =some s)(d:ti (iA [] s)=true):yF Rd N w t a gl (i+1) W:=by
 obtain⟨c,D,r,h1,h2,h3,b⟩:=h.rd;exact⟨h.base,h.line,h.loop,h.lines,h.hgl,c,D,r,by omega,h2.trans (Fy r e d),h3,b⟩
def ow(N:Nat)(a:Loop)(i:Nat)(W:World):World:=(W.putObj (N+7) (.loop {a with state:=.busy})).setCell (J (N+1)) (.int .i64 ((i:Int)+1))
def rh(N a i W k)(h1:k≠N+7)(h2:k≠N+1):(ow N a i W).heap[k]? =W.heap[k]? :=
 (TI _ _ _ _ (fun e=>h2 e)).trans (World.putObj_heap_other h1)
def FA(N a i W):(ow N a i W).heap.size=W.heap.size:=by unfold ow;simp
def ox{B r w W o}(h:Below B w W)(c:B<=r):Below B w (W.putObj r o):=by
 obtain⟨h1,h2,h3,a,h5⟩:=h;exact⟨h1,h2,h3,by simpa using a,fun k b=>(World.putObj_heap_other (by omega)).trans (h5 k b)⟩
def DF(N a i W):Below N W (ow N a i W):=
 (ox (TH N W) (by omega)).setCell (p:=J (N+1)) (by show N<=N+1;omega) _
def FB(N a i W)(n:Int)(h:W.heap[N+1]? =some (.cells #[n] 3 (0,0))):(ow N a i W).heap[N+1]? =some (.cells #[.int .i64 ((i:Int)+1)] 3 (0,0)):=
 gG ((World.putObj_heap_other (by omega)).trans h) 0 (.int .i64 ((i:Int)+1))
def FC(N a b i W)(h:W.heap[N+7]? =some (.loop b)):(ow N a i W).heap[N+7]? =some (.loop {a with state:=.busy}):=
 (TI _ _ _ _ (fun e=>by have:N+7=N+1:=e;omega)).trans (World.putObj_heap_same (TK h))
def NR(Rd:Nat->(Nat->Prop)->jL->World->Prop)(N:Nat)(w:World)(t:List UInt8)(b:Loop)(gl i:Nat)(e:Ending)(W':World):Prop:=
 (e=.returned (.bool true)/\yF Rd N w t b gl (i+1) W')\/ ∃a,e=.panicked a/\LA N w t a W'
def IB{Rd:Nat->(Nat->Prop)->jL->World->Prop}{N:Nat}{w:World}{t:List UInt8}{a:Loop}{gl i:Nat}{W:World}{s:List UInt8}{A:Nat}(C:vD (N+8) (N+3) Rd)(P:14<=N)(h:yF Rd N w t a gl i W)(b1:a.state=.ready)(b2:a.pending=none)
 (H:(io [] t)[i]? =some s)(y:ti (iA [] s)=false)(hw:ua W (J A) (iA [] s).length (iA [] s).length (iA [] s) W)(ht:t.length<=20000):
 Calls prog 52 #[U (N+3),Z (J A) (iA [] s).length (iA [] s).length] (ow N a i W) fun e d=>match e with
  | .returned _=>d.heap[N+7]? =some (.loop {a with state:=.busy})/\NR Rd N w t a gl i (.returned (.bool true)) (d.putObj (N+7) (.loop a))
  | .panicked u=>NR Rd N w t a gl i (.panicked u) d
  | .outgrown=>False:=by
 obtain⟨n,hn⟩:=h.line;obtain⟨c,D,r,h1,h2,h3,T⟩:=h.rd;have b3:=h.base.sz;have a9:=FA N a i W;have hi:=(TG.1 H).1;have hL:=qI t [];have a6:=uF t [] s (aL H);have b4:=pH s []
 have a8:=fun v S=>sN s [] v S
 rw[cI]at a6;have K:Rd c D r (ow N a i W):=C.kept c D r W _ h3 (fun k a1 hlt=>rh N a i W k (by omega) (by omega)) (by omega)
 have a7:ua (ow N a i W) (J A) (iA [] s).length (iA [] s).length (iA [] s) (ow N a i W).heap.size:=by
  refine⟨hw.1,hw.2.1,fun h0=>?_⟩;obtain⟨q,off,e1,e2,e3⟩:=hw.2.2 h0;refine⟨q,off,e1,by omega,fun j x hx=>?_⟩;have m:=e3 j x hx
  have a5:q≠N+7:=fun e=>by rw[e,World.cell?,h.loop]at m;cases m
  have a4:q≠N+1:=fun e=>by
   rw[e,gA hn]at m
   obtain h0|h0:=cM (off+j)
   .rw[h0]at m;cases m
   .rw[bo,bz (by simp;omega)]at m;cases m
  rw[<- m];simp only[World.cell?,rh N a i W q a5 a4]
 have p:iA [] s≠[]:=fun e=>by rw[e]at y;cases y
 have z:=h.base.kept (W':=ow N a i W) P (fun k hlt _ h1=>rh N a i W k (by omega) h1) (DF N a i W);refine(C.read c D r _ _ A K a7 p (fun v S=>by have:=a8 v S;simp at this;omega) (by omega) (by omega) (by omega) z.gw (z.tw.mono (by omega))).mono ?_;rintro e d ⟨Q,f,a3⟩
 have E:=fun b Q=>(C.own c D r _ b K Q).1
 have a2:∀k,k<N+8->k≠N+3-> ¬D k:=fun k hlt p M=>by have:=E k M;omega
 have B:∀k,k<N+8->k≠N+3->d.heap[k]? =(ow N a i W).heap[k]? :=fun k hlt p=>f k (by omega) (a2 k hlt p)
 have l:=(B (N+7) (by omega) (by omega)).trans (FC N a a i W h.loop);have g:=(B (N+1) (by omega) (by omega)).trans (FB N a i W n hn);have L:=z.kept (W':=d) P (fun k hlt h1 _=>B k (by omega) h1) (Q.mono (by omega));have hgl:gl<W.heap.size:=TK h.lines;have o:d.heap[gl]? =some (.cells (ji (io [] t)).toArray 9 (0,0)):=(f gl (by omega) T).trans ((rh N a i W gl (by have:=h.hgl;omega) (by have:=h.hgl;omega)).trans h.lines)
 obtain ⟨q,R,rfl,D',X,a0⟩|⟨R,rfl⟩:=a3
 .refine⟨l,VR ⟨rfl,?_⟩⟩
  have F:∀k,k≠N+7->(d.putObj (N+7) (.loop a)).heap[k]? =d.heap[k]? :=fun k y=>World.putObj_heap_other y
  have b0:=h.hgl
  exact⟨L.kept P (fun k hlt _ _=>F k (by omega)) (ox (TH N d) (by omega)),⟨_,(F _ (by omega)).trans g⟩,World.putObj_heap_same (TK l),(F _ (by omega)).trans o,h.hgl,
   c+1,D',q,by omega,h2.trans (LB H y R),C.kept _ D' q d _ a0 (fun k a1 hlt=>F k (by omega)) (by simp),fun M=>by
    obtain h5|h5:=X gl M
    .exact T h5
    .omega⟩
 .exact VS ⟨_,rfl,rfl,L,i+1,h2.trans (LC H y R),g⟩
def DG(N m:Nat)(b:Loop):Prop:=∀(i A n:Nat)(W:World)(R:Ending->World->Prop),W.heap[N+7]? =some (.loop b)->(∃z:Int,W.heap[N+1]? =some (.cells #[z] 3 (0,0)))->
 W.heap[N+4]? =some (.cells #[U (N+3)] 125 (0,0))->i<=100000->
 Calls prog 52 #[U (N+3),Z (J A) n n] (ow N b i W) (fun e c=>match e with
  | .returned _=>c.heap[N+7]? =some (.loop {b with state:=.busy})/\R (.returned (.bool true)) (c.putObj (N+7) (.loop b))
  | .panicked a=>R (.panicked a) c
  | .outgrown=>False)->YieldAt Fence.wide m prog (N+7) #[.int .i64 ((i:Int)+1),Z (J A) n n] W R
def NS{Rd:Nat->(Nat->Prop)->jL->World->Prop}{N m:Nat}{w:World}{t:List UInt8}{b:Loop}(e:vD (N+8) (N+3) Rd)(d:14<=N)(n:t.length<=20000)(j:b.state=.ready)(f:b.pending=none)(l:DG N m b):
 TB t (yF Rd N w t b) (LA N w t) (N+7) m where
 lines:=fun g i W h=>h.lines
 gw:=fun g i W h=>h.base.gw
 go:=fun g i W W' h k=>h.go e d k
 skip:=fun g i W s h a c=>h.skip a c
 yield:=fun g i W s A h a c hw=>by
  have hi:=(TG.1 a).1;have o:=qI t [];exact l i A _ W _ h.loop h.line h.base.ptr (by omega) (IB e d h j f a c hw n)
def FD{Rd:Nat->(Nat->Prop)->jL->World->Prop}{N m:Nat}{w:World}{t:List UInt8}{d:Loop}(l:vD (N+8) (N+3) Rd)(j:14<=N)(x:t.length<=20000)(r:d.state=.ready)(q:d.pending=none)(v:DG N m d)
 {W:World}(A:W.heap.size=N+8)(n:tl N w W)(u:∃z:Int,W.heap[N+1]? =some (.cells #[z] 3 (0,0)))(p:W.heap[N+7]? =some (.loop d))(o:W.cell? (J (N+5))=some (.string (bs t)))(h0:Rd 0 (fun b=>b=N+3) Ae W):
 Calls prog 87 #[.func (.yield (N+7)) #[] #[],U (N+5)] W fun e i=>match e with
  | .returned _=>(∃gl,yF Rd N w t d gl (io [] t).length i)
  | .panicked a=>LA N w t a i
  | .outgrown=>False:=by
 have f:=(TH W W).alloc (aa _) (.cells (ji (io [] t)).toArray 9)
 have c:∀k,k<W.heap.size->(W.alloc (.cells (ji (io [] t)).toArray 9)).heap[k]? =W.heap[k]? :=fun k c=>f.block k c
 obtain⟨z,y⟩:=u;refine(Lv t (yF Rd N w t d) (LA N w t) (N+7) m (N+5) W (NS l j x r q v) o n.gw (by omega) ?_).mono ?_
 .exact⟨n.kept j (fun k hlt _ _=>c k (by omega)) (f.mono (by omega)),⟨z,(c _ (by omega)).trans y⟩,(c _ (by omega)).trans p,TL W _,by omega,
   0,fun b=>b=N+3,Ae,aA _,by rw[dW],l.kept 0 _ Ae W _ h0 (fun k _ hlt=>c k hlt) f.size,by omega⟩
 .rintro e i (⟨rfl,g,s⟩|⟨a,rfl,h⟩)
  .exact⟨g,s⟩
  .exact h
section
attribute [local go_sem] Oper.semAt_some
def ye(w:World)(r:PP)(e:Ending)(w':World):Prop:=∃f v s k,e=.returned (.tuple #[jG r.x f v s k,r.line,r.e])/\iP (fun b=>b<w'.heap.size) w' r.x f v s k/\Below w w w'
def rF{fn p q u tmps w b g2 c x f v s k}{n e:Int}(h:fn.results=#[.cell p 37,.cell q 3,.cell u 44])(g:tmps.getD p undef=.pointer (J b))(i:tmps.getD q undef=.pointer (J g2))(j:tmps.getD u undef=.pointer (J c))(h1:hU w b 37 x f v s k)(h2:w.heap[g2]? =some (.cells #[n] 3 (0,0)))(h3:w.heap[c]? =some (.cells #[e] 44 (0,0))):
 (results fn tmps).run prog w=.ok (.tuple #[jG x f v s k,n,e]) w:=by
 have d:(results fn tmps).run prog w=((asAddr (tmps.getD p undef)).run prog w).andThen fun a m=>((loadVar 37 a).run prog m).andThen fun v o=>((asAddr (tmps.getD q undef)).run prog o).andThen fun a2 r=>((loadVar 3 a2).run prog r).andThen fun v2 t=>((asAddr (tmps.getD u undef)).run prog t).andThen fun a3 y=>((loadVar 44 a3).run prog y).andThen fun l z=>.ok (.tuple #[v,v2,l]) z:=by
  simp only[results,h];simp[bR,Result.andThen]
 rw[d,g,i,j];simp only[asAddr,cT,bU];rw[run_loadVar_row w b 37 37 _ (0,0) _ h1 underlying37 rfl Tryz.infoLens];simp only[bU];have c2:w.cell? (J g2)=some (.int .i64 n):=gA h2 0;have c3:w.cell? (J c)=some (.int .i64 e):=gA h3 0;go_simp;rfl
def FE{b P c}{Q:Exit->Act->World->Prop}{a w}(F:World->Prop)(d:F w)(h:∀w',F w'->JO b P c Q a w'):JO b P c Q a w:=h w d
def alloc_old{W:World}{o k}(a:k<W.heap.size):(W.alloc o).heap[k]? =W.heap[k]? :=((TH W W).alloc (aa _) o).block k a
def ku{W:World}{o M}(a:W.heap.size=M):(W.alloc o).heap[M]? =some o:=by rw[<- a];exact World.alloc_heap_new W o
structure RD (N:Nat) (w W:World):Prop where
 len:hU W N 37 lz ij ij ij ij
 lin:W.heap[N+1]? =some (.cells #[oZ] 3 (0,0))
 err:W.heap[N+2]? =some (.cells #[oZ] 44 (0,0))
 sz:W.heap.size=N+3
 bel:Below N w W
def PU(w N)(a:w.heap.size=N):RD N w (((w.alloc (.cells (iw lz ij ij ij ij).toArray 37)).alloc (.cells #[oZ] 3)).alloc (.cells #[oZ] 44)):=by
 have s1:(w.alloc (.cells (iw lz ij ij ij ij).toArray 37)).heap.size=N+1:=by simp[a]
 have s2:((w.alloc (.cells (iw lz ij ij ij ij).toArray 37)).alloc (.cells #[oZ] 3)).heap.size=N+2:=by simp[a]
 exact⟨(alloc_old (by omega)).trans ((alloc_old (by omega)).trans (ku a)),(alloc_old (by omega)).trans (ku s1),ku s2,by simp[a],(((TH N w).alloc (by omega) _).alloc (by omega) _).alloc (by omega) _⟩
structure RE (N:Nat) (w W:World):Prop where
 len:hU W N 37 lz ij ij ij ij
 lin:W.heap[N+1]? =some (.cells #[oZ] 3 (0,0))
 err:W.heap[N+2]? =some (.cells #[oZ] 44 (0,0))
 rdr:nx W (N+3) Ae ij ij ij ij (.map none)
 ptr:W.heap[N+4]? =some (.cells #[U (N+3)] 125 (0,0))
 sz:W.heap.size=N+5
 bel:Below N w W
def PV{w W N}(h:RD N w W):RE N w ((W.alloc (.cells (yN Ae ij ij ij ij (.map none)).toArray 128)).alloc (.cells #[U (N+3)] 125)):=by
 have a:=h.sz
 have s1:(W.alloc (.cells (yN Ae ij ij ij ij (.map none)).toArray 128)).heap.size=N+4:=by simp[a]
 refine⟨(alloc_old (by omega)).trans ((alloc_old (by omega)).trans h.len),(alloc_old (by omega)).trans ((alloc_old (by omega)).trans h.lin),(alloc_old (by omega)).trans ((alloc_old (by omega)).trans h.err),
  (alloc_old (by omega)).trans (ku a),ku s1,by simp[a],(h.bel.alloc (by omega) _).alloc (by omega) _⟩
structure PW (N:Nat) (t:List UInt8) (w W:World):Prop where
 len:hU W N 37 lz ij ij ij ij
 lin:W.heap[N+1]? =some (.cells #[oZ] 3 (0,0))
 err:W.heap[N+2]? =some (.cells #[oZ] 44 (0,0))
 rdr:nx W (N+3) Ae ij ij ij ij (.map none)
 ptr:W.heap[N+4]? =some (.cells #[U (N+3)] 125 (0,0))
 txt:W.heap[N+5]? =some (.cells #[.string (bs t)] 9 (0,0))
 sz:W.heap.size=N+6
 bel:Below N w W
def PX{w W N}(t)(h:RE N w W):PW N t w (W.alloc (.cells #[.string (bs t)] 9)):=by
 have a:=h.sz;exact⟨(alloc_old (by omega)).trans h.len,(alloc_old (by omega)).trans h.lin,(alloc_old (by omega)).trans h.err,(alloc_old (by omega)).trans h.rdr,(alloc_old (by omega)).trans h.ptr,ku a,by simp[a],h.bel.alloc (by omega) _⟩
def PY{w W N t}(h:PW N t w W)(g:GW w)(f:TW N w)(e:w.heap.size=N)(a):
 tl N w ((W.alloc (.deferred (some []))).alloc (.loop a))/\(∃z:Int,((W.alloc (.deferred (some []))).alloc (.loop a)).heap[N+1]? =some (.cells #[z] 3 (0,0)))/\((W.alloc (.deferred (some []))).alloc (.loop a)).heap[N+7]? =some (.loop a)/\
  ((W.alloc (.deferred (some []))).alloc (.loop a)).cell? (J (N+5))=some (.string (bs t))/\nx ((W.alloc (.deferred (some []))).alloc (.loop a)) (N+3) Ae ij ij ij ij (.map none)/\((W.alloc (.deferred (some []))).alloc (.loop a)).heap.size=N+8:=by
 have c:=h.sz
 have s1:(W.alloc (.deferred (some []))).heap.size=N+7:=by simp[c]
 have b:∀k,k<N+6->((W.alloc (.deferred (some []))).alloc (.loop a)).heap[k]? =W.heap[k]? :=fun k b=>(alloc_old (by omega)).trans (alloc_old (by omega))
 have d:Below N w ((W.alloc (.deferred (some []))).alloc (.loop a)):=(h.bel.alloc (by omega) _).alloc (by omega) _
 exact⟨⟨(b _ (by omega)).trans h.len,(b _ (by omega)).trans h.err,(b _ (by omega)).trans h.ptr,(alloc_old (by omega)).trans (ku c),d,g.below (by rw[e];exact d),f.below d,by simp[c]⟩,
  ⟨0,(b _ (by omega)).trans h.lin⟩,ku s1,gA ((b _ (by omega)).trans h.txt) 0,(b _ (by omega)).trans h.rdr,by simp[c]⟩
def FF{Rd:Nat->(Nat->Prop)->jL->World->Prop}{N m w W t j assign body k a}{Q:Exit->Act->World->Prop}(B:vD (N+8) (N+3) Rd)(h0:∀W,nx W (N+3) Ae ij ij ij ij (.map none)->Rd 0 (fun b=>b=N+3) Ae W)(D:GW w)(p:TW N w)(A:w.heap.size=N)(E:t.length<=20000)(n:PW N t w W)(C:a.eval k=.func (.func 87) #[] #[U (N+5)])(i:DG N m {state:=.ready,pending:=none,fn:=18,tmps:=a.tmps,params:=j,assign:=assign,body:=body,defers:=N+6})(hdone:∀gl g,yF Rd N w t {state:=.ready,pending:=none,fn:=18,tmps:=a.tmps,params:=j,assign:=assign,body:=body,defers:=N+6} gl (io [] t).length g->
   Q .normal {a with defers:={target:=.collected (N+6),args:=#[]}::a.defers} (g.putObj (N+7) (.loop {state:=.exhausted,pending:=none,fn:=18,tmps:=a.tmps,params:=j,assign:=assign,body:=body,defers:=N+6})))(hbad:∀c g,LA N w t c g->Q (.panic c) {a with defers:={target:=.collected (N+6),args:=#[]}::a.defers} g):
 JO 18 prog (.rangeFunc k j assign body) Q a W:=by
 obtain⟨r,s,u,x,y,z⟩:=PY n D p A {state:=.ready,pending:=none,fn:=18,tmps:=a.tmps,params:=j,assign:=assign,body:=body,defers:=N+6};have o:=run_enterLoop_outer (P:=prog) (w:=W) 18 a.tmps j assign body;rw[n.sz]at o
 refine Lz (l:=N+7) (w₁':=(W.alloc (.deferred (some []))).alloc (.loop {state:=.ready,pending:=none,fn:=18,tmps:=a.tmps,params:=j,assign:=assign,body:=body,defers:=N+6})) (d:={target:=.fn (.func 87) #[U (N+5)],args:=#[.func (.yield (N+7)) #[] #[]]}) (f:=87) (args:=#[.func (.yield (N+7)) #[] #[],U (N+5)]) o ?_ ?_
  ((FD B (p.glo) E rfl rfl i z r s u x (h0 _ y)).mono ?_)
 .have q:resolve a.eval (rangeCall k (N+7)) 0=Deferred.ofValue (a.eval k) #[.func (.yield (N+7)) #[] #[]]:=by unfold resolve;simp[Act.eval]
  rw[q,C];rfl
 .simp[go_sem]
 .intro e g h
  cases e with
  |returned v=>
   obtain⟨gl,hgl⟩:=h;exact⟨_,run_endLoop hgl.loop (by simp),hdone gl g hgl⟩
  |panicked c=>exact hbad c g h
  |outgrown=>exact h
def NT(t w):Calls prog 51 #[.string (bs t)] w fun e w'=>e=.returned (.func (.func 87) #[] #[U (w.heap.size)])/\w'=w.alloc (.cells #[.string (bs t)] 9):=by
 go_enter func51,ntmps51;go_wp2_with fail;go_ret;exact⟨rfl,rfl⟩
def rG{F n P f args u w}{R d:Ending->FrameMode->World->Prop}(h:CallsDIn F n P f args u w R)(i:∀e b w',R e b w'->d e b w'):CallsDIn F n P f args u w d:=
 ⟨h.1,fun c cs g a=>let⟨e,b,w',fr,hR,hs⟩:=h.2 c cs g a;⟨e,b,w',fr,i _ _ _ hR,hs⟩⟩
def pj{F n P fn tmps a}{R:Ending->World->Prop}(h:∀w,(results fn tmps).run P w=(results fn a).run P w):∀(ds:List Deferred)(u:FrameMode)(w:World),LeavesInM F n P fn tmps R ds u w->LeavesInM F n P fn a R ds u w
 |[],u,w,hl=>by
  cases u with
  |run=>exact hl
  |returning=>obtain⟨v,h1,h2⟩:=hl;exact⟨v,(h w).symm.trans h1,h2⟩
  |panicking c=>exact hl
 |d::ds,u,w,hl=>by
  obtain⟨h1,h2⟩:=hl;refine⟨h1,?_⟩
  obtain ⟨r,w',g,i,j⟩|⟨l,k,cap,f,args,g,i,j,m⟩:=h2
  .exact VR ⟨r,w',g,i,pj h ds u w' j⟩
  .refine VS ⟨l,k,cap,f,args,g,i,j,rG m ?_⟩
   intro e o w' b
   cases e with
   |returned v=>exact pj h ds _ w' b
   |panicked chain=>exact pj h ds _ w' b
   |outgrown=>exact b
def As(tmps:Array Value)(d j v)(h:j≠d):(tmps.setIfInBounds d v).getD j undef=tmps.getD j undef:=by
 rw[eD,eD,fD (fu h)]
def yg(tmps w):(results Tryz.f18 tmps).run prog w=((asAddr (tmps.getD 2 undef)).run prog w).andThen fun a c=>((loadVar 37 a).run prog c).andThen fun v d=>((asAddr (tmps.getD 3 undef)).run prog d).andThen fun a2 e=>((loadVar 3 a2).run prog e).andThen fun v2 f=>((asAddr (tmps.getD 4 undef)).run prog f).andThen fun a3 g=>((loadVar 44 a3).run prog g).andThen fun b h=>.ok (.tuple #[v,v2,b]) h:=by
 simp only[results,results18];simp[bR,Result.andThen]
def FG(d)(a:5<=d)(tmps v w):(results Tryz.f18 (tmps.setIfInBounds d v)).run prog w=(results Tryz.f18 tmps).run prog w:=by
 rw[yg,yg,As tmps d 2 v (by omega),As tmps d 3 v (by omega),As tmps d 4 v (by omega)]
def LD{d}(b:5<=d){R:Ending->World->Prop}{ch}{K:Act->World->Prop}{a w v}(h:Exit.then K (bodyPostM Fence.wide 0 prog Tryz.f18 R) (.panic ch) (a.put (some d) v) w):Exit.then K (bodyPostM Fence.wide 0 prog Tryz.f18 R) (.panic ch) a w:=
 pj (FG d b a.tmps v) a.defers _ w h
def ud:∀(l w:List UInt8),(io w l).length=l.count 10+1
 |[],w=>rfl
 |b::l,w=>by
  rw[io,List.count_cons];cases h:(b==10)
  .rw[aj (by simp),aj (by simp),ud l _]
  .rw[aq rfl,aq rfl,aH,ud l []]
def LE(l w):Calls prog 53 #[.string (bs l),.string {data:=#[10]}] w fun e w'=>e=.returned (.int .i64 ((l.count 10:Nat):Int))/\w=w':=by
 refine(Tryz.strings_Count_one (bs l) 10 w).mono ?_;rintro e w' ⟨rfl,rfl⟩;exact⟨rfl,rfl⟩
def DH(S:Nat->Prop)(w):iP S w lz ij ij ij ij:=
 ⟨IRp.nil _ _ _ _ _,IRp.nil _ _ _ _ _,RR.nil _ _ _ _ _ _,RR.nil _ _ _ _ _ _,by decide,by decide,by decide,by decide,fun _=>rfl,fun _=>rfl,by decide⟩
def FH{t n}(a:¬20000<t.length)(h:lR 0 Ae (io [] t)=.error n):nr t=⟨lz,(n:Int),5⟩:=by
 unfold nr;rw[aj a,h];rfl
def Ct{N w W t a tmps n}(p:w.heap.size=N)(d:a=[{v:=.iface 124 (.agg #[]),recovered:=false}])(hbs:tl N w W)(hrs:nr t=⟨lz,n,5⟩)(hline:W.heap[N+1]? =some (.cells #[n] 3 (0,0)))(h2:tmps.getD 2 undef=.pointer (J N))(h3:tmps.getD 3 undef=.pointer (J (N+1)))(h4:tmps.getD 4 undef=.pointer (J (N+2))):
 LeavesInM Fence.wide 0 prog Tryz.f18 tmps (ye w (nr t)) [{target:=.collected (N+6),args:=#[]},{target:=.fn (.func 50) #[U N,U (N+2)],args:=#[]}] (.panicking a) W:=by
 have b:∀k,k≠N+6->(W.putObj (N+6) (.deferred none)).heap[k]? =W.heap[k]? :=fun k b=>World.putObj_heap_other b
 have c:=ox (o:=.deferred none) hbs.bel (show N<=N+6 by omega);have q:=hbs.sz
 have i:(W.putObj (N+6) (.deferred none)).heap.size=W.heap.size:=by simp
 rw[d,hrs];refine⟨by simp,VR ⟨N+6,_,rfl,run_takeDeferred hbs.dfr,?_⟩⟩;refine⟨by simp,VS ⟨fun h=>(by cases h),.func 50,_,50,#[U N,U (N+2)],rfl,by simp[go_sem],fun _ _=>trivial,?_⟩⟩;refine rG (xp N (N+2) (by omega) [] _ _ ((b N (by omega)).trans hbs.len) rfl ((b (N+2) (by omega)).trans hbs.err)) ?_;rintro e r g ⟨rfl,rfl,h5,j,l,m⟩;have f:g.heap[N+1]? =some (.cells #[n] 3 (0,0)):=(l (N+1) (by omega) (by omega) (by omega)).trans ((b (N+1) (by omega)).trans hline)
 show LeavesIn Fence.wide 0 prog Tryz.f18 tmps _ [] (settle _) g
 simp only[LeavesIn,settle,List.dropWhile_nil];exact⟨_,rF rfl h2 h3 h4 h5 f j,ij,ij,ij,ij,rfl,DH _ _,by rw[p];exact c.trans (m.mono (by omega))⟩
def LF{N w W t a tmps}(e:w.heap.size=N)(f:¬20000<t.length)(c:LA N w t a W)(h2:tmps.getD 2 undef=.pointer (J N))(h3:tmps.getD 3 undef=.pointer (J (N+1)))(d:tmps.getD 4 undef=.pointer (J (N+2))):
 LeavesInM Fence.wide 0 prog Tryz.f18 tmps (ye w (nr t)) [{target:=.collected (N+6),args:=#[]},{target:=.fn (.func 50) #[U N,U (N+2)],args:=#[]}] (.panicking a) W:=by
 obtain⟨n,g,b⟩:=c.no;exact Ct e c.ch c.base (FH f g) b h2 h3 d
def Cu{N w W q tmps f v s k}(j:w.heap.size=N)(l:W.heap[N+6]? =some (.deferred (some [])))(m:hU W N 37 q.x f v s k)(c:W.heap[N+1]? =some (.cells #[q.line] 3 (0,0)))(g:W.heap[N+2]? =some (.cells #[q.e] 44 (0,0)))(n:iP (fun b=>b<W.heap.size/\b≠N+6) W q.x f v s k)(d:Below N w W)(h2:tmps.getD 2 undef=.pointer (J N))(h3:tmps.getD 3 undef=.pointer (J (N+1)))(i:tmps.getD 4 undef=.pointer (J (N+2))):
 LeavesInM Fence.wide 0 prog Tryz.f18 tmps (ye w q) [{target:=.collected (N+6),args:=#[]},{target:=.fn (.func 50) #[U N,U (N+2)],args:=#[]}] .returning W:=by
 have a:∀k,k≠N+6->(W.putObj (N+6) (.deferred none)).heap[k]? =W.heap[k]? :=fun k a=>World.putObj_heap_other a
 refine⟨by simp,VR ⟨N+6,_,rfl,run_takeDeferred l,?_⟩⟩;refine⟨by simp,VS ⟨fun h=>(by cases h),.func 50,_,50,#[U N,U (N+2)],rfl,by simp[go_sem],fun _ _=>trivial,?_⟩⟩;refine rG (Fx (J N) (J (N+2)) _ _) ?_;rintro e o p ⟨rfl,rfl,rfl⟩
 show LeavesIn Fence.wide 0 prog Tryz.f18 tmps _ [] (settle _) _
 simp only[LeavesIn,settle];exact⟨_,rF rfl h2 h3 i ((a N (by omega)).trans m) ((a (N+1) (by omega)).trans c) ((a (N+2) (by omega)).trans g),f,v,s,k,rfl,n.kept (fun b d=>a b d.2) (fun b d=>by simpa using d.1),by rw[j];exact ox d (by omega)⟩
def FI{N:Nat}{w c d:World}{x:gR}{f v s k:iJ}{n e r:Int}(h:tl N w c)(o:hU d N 37 x f v s k)(j:d=c.setCells N 0 (iw x f v s k))(q:c.heap[N+1]? =some (.cells #[r] 3 (0,0))):
 let a:=(d.setCell (J (N+1)) (.int .i64 n)).setCell (J (N+2)) (.int .i64 e)
 a.heap[N+6]? =some (.deferred (some []))/\hU a N 37 x f v s k/\a.heap[N+1]? =some (.cells #[n] 3 (0,0))/\a.heap[N+2]? =some (.cells #[e] 44 (0,0))/\(∀b,N+8<=b->a.heap[b]? =c.heap[b]?)/\a.heap.size=c.heap.size/\Below N w a:=by
 intro a
 have g:∀b,b≠N->d.heap[b]? =c.heap[b]? :=fun b l=>by rw[j];exact gK N _ 0 c b l
 have i:∀b,b≠N+1->b≠N+2->a.heap[b]? =d.heap[b]? :=fun b h1 h2=>(TI _ _ _ _ (fun e=>h2 e)).trans (TI _ _ _ _ (fun e=>h1 e))
 have m:Below N w d:=by rw[j];exact ig (b:=N) (aa _) _ _ h.bel
 refine⟨(i _ (by omega) (by omega)).trans ((g _ (by omega)).trans h.dfr),(i _ (by omega) (by omega)).trans o,?_,?_,fun b l=>(i b (by omega) (by omega)).trans (g b (by omega)),?_,(m.setCell (p:=J (N+1)) (by show N<=N+1;omega) _).setCell (p:=J (N+2)) (by show N<=N+2;omega) _⟩
 .exact(TI _ _ _ _ (fun e=>by have:N+1=N+2:=e;omega)).trans (gG ((g _ (by omega)).trans q) 0 _)
 .exact gG ((TI _ _ _ _ (fun e=>by have:N+2=N+1:=e;omega)).trans ((g _ (by omega)).trans h.err)) 0 _
 .show((d.setCell _ _).setCell _ _).heap.size=_
  rw[j];simp[im]
def NU{t r}(a:¬20000<t.length)(h:lR 0 Ae (io [] t)=lR (io [] t).length r []):nr t=if r.at_≠9 then⟨lz,((io [] t).length:Int),5⟩else if iI r.x=true then⟨r.x,0,0⟩else⟨lz,0,120⟩:=by
 unfold nr;rw[aj a,h,lR];rfl
def tn{ops a b c w}{Q:Exit->Act->World->Prop}{g r f v s k m}(y)(n:b.op=.load 37 y)(d:b.guard=none)(o:c.eval y=.pointer (J g))(h:nx w g r f v s k m)(l:wpList prog ops Q a (c.put b.dst (jG r.x f v s k)) w):wpList prog ops Q (b::a) c w:=
 wpList_load_mid d 37 y n g 0 o (iw r.x f v s k) _ (fun j u e=>by
  have i:j<9:=(TG.1 e).1
  rw[aV,gA h j,bo,yN,aF i];exact e) underlying37 rfl Tryz.infoLens l
def LH{Rd:Nat->(Nat->Prop)->jL->World->Prop}(t)(w:World)(hS:vD (w+8) (w+3) Rd)(h0:∀W,nx W (w+3) Ae ij ij ij ij (.map none)->Rd 0 (fun b=>b=w.heap.size+3) Ae W)(hg:GW w)(hT:TW w w)(hP:jY w w)(ht:t.length<=100000):
 Calls prog 18 #[.string (bs t)] w (ye w (nr t)):=by
 by_cases y:20000<t.length
 .have a4:(20000:Int) <(t.length:Int):=by omega
  have d:nr t=⟨lz,0,3⟩:=by unfold nr;rw[aq y];rfl
  have e9:=O d
  have s1:(w.alloc (.cells (iw lz ij ij ij ij).toArray 37)).heap.size=w.heap.size+1:=by simp
  have s2:((w.alloc (.cells (iw lz ij ij ij ij).toArray 37)).alloc (.cells #[oZ] 3)).heap.size=w.heap.size+1+1:=by simp
  have k1:hU (((w.alloc (.cells (iw lz ij ij ij ij).toArray 37)).alloc (.cells #[oZ] 3)).alloc (.cells #[.int .i64 3] 44)) w 37 lz ij ij ij ij:=(alloc_old (by omega)).trans ((alloc_old (by omega)).trans (ku rfl));have k2:(((w.alloc (.cells (iw lz ij ij ij ij).toArray 37)).alloc (.cells #[oZ] 3)).alloc (.cells #[.int .i64 3] 44)).heap[w.heap.size+1]? =some (.cells #[oZ] 3 (0,0)):=(alloc_old (by omega)).trans (ku s1);have k3:(((w.alloc (.cells (iw lz ij ij ij ij).toArray 37)).alloc (.cells #[oZ] 3)).alloc (.cells #[.int .i64 3] 44)).heap[w.heap.size+1+1]? =some (.cells #[.int .i64 3] 44 (0,0)):=ku s2;have k4:Below w w (((w.alloc (.cells (iw lz ij ij ij ij).toArray 37)).alloc (.cells #[oZ] 3)).alloc (.cells #[.int .i64 3] 44)):=(((TH _ w).alloc (aa _) _).alloc (by omega) _).alloc (by omega) _;have K1:=O k1;have K2:=O k2;have K3:=O k3;have K4:=O k4;clear hS h0 hg hT hP d y s1 s2 k1 k2 k3 k4;go_enter func18,ntmps18;go_wp2_with fail;refine ar (rF rfl rfl rfl rfl K1 K2 K3) rfl ?_;rw[e9];exact⟨ij,ij,ij,ij,rfl,DH _ _,K4⟩
 .have a4:¬(20000:Int) <(t.length:Int):=by omega
  have HS:=O hS;have H0:=O h0;have Hg:=O hg;have HT:=O hT;have HP:=O hP;clear hS h0 hg hT hP;refine DE func18 rfl ?_;simp only[ntmps18,List.size_toArray,aH,cI,Nat.reduceAdd,Nat.reduceSub,Array.replicate_succ,Array.replicate_zero,List.push_toArray,List.append_toArray,bD,bF];obtain⟨N,M⟩:∃N,w.heap.size=N:=⟨_,rfl⟩;rw[M]at HS H0 HT HP;have hN:=HT.glo;refine oW (fun K0 g7=>?_);go_wp2_with fail;refine FE (RD N w) (PU w N M) (fun w1 h1=>?_)
  try rw[M]
  have b6:=O h1;clear h1;refine oW (fun K1 g8=>?_);go_wp2_with fail;refine oW (fun K2 g9=>?_);go_wp2_with fail;refine oW (fun K3 h7=>?_);have c8:=b6.sz;go_wp2_with fail;refine FE (RE N w) (PV b6) (fun w2 h2=>?_);have b7:=O h2;clear h2 b6 c8;refine JP ?_;refine oW (fun K5 i0=>?_);have b0:=b7.sz;go_wp2_with fail;refine(NT t w2).mono ?_;rintro e w3 ⟨rfl,rfl⟩;go_wp2_with fail
  try rw[b0]
  refine FE (PW N t w) (PX t b7) (fun w3 h3=>?_);have d2:=O h3;clear h3 b7 b0;have f9:=d2.sz;refine Lw ?_;refine FF (m:=5) HS H0 Hg HT M (by omega) d2 rfl ?round ?done ?bad
  case round=>
   intro i A n W R a9 f6 e6 hi L;obtain⟨z,hz⟩:=f6;refine⟨_,_,_,_,run_yield a9 rfl,?_⟩;refine DD func18 trivial ?_;simp only[List.zip_toArray,List.zip_cons_cons,List.zip_nil_left,List.zip_nil_right,List.foldl_toArray,List.foldl_cons,List.foldl_nil,bK,aW,aZ]
   gi_wp2
   refine⟨_,run_beginRound a9 rfl,?_⟩;have i3:=TK a9
   have c4:∀o,(W.putObj (N+7) o).heap[N+1]? =some (.cells #[z] 3 (0,0)):=fun o=>(World.putObj_heap_other (by omega)).trans hz
   have c0:=fun o=>gA (c4 o) 0
   have f0:=fun o=>gD (c4 o) 0
   have e5:∀o,((W.putObj (N+7) o).setCell (J (N+1)) (.int .i64 ((i:Int)+1))).heap[N+3+1]? =some (.cells #[U (N+3)] 125 (0,0)):=
    fun o=>(TI _ _ _ _ (fun e=>by have:N+3+1=N+1:=e;omega)).trans ((World.putObj_heap_other (by omega)).trans e6)
   have c1:=fun o=>gA (e5 o) 0
   unfold ow at L;have X:=O L;clear L a9 c4 e5 hz e6
   gi_wp2
   refine⟨trivial,CallsIn.mono (CallsIn.inRound (N+7) (callsIn_wide.2 X)) ?_⟩;intro e W2 h;clear X c0 f0 c1
   cases e with
   |returned v=>
    obtain⟨h1,h2⟩:=h;have f4:=O h1;have H2:=O h2;clear h1 h2
    gi_wp2
    refine⟨_,_,run_endRound none f4,?_⟩;exact H2
   |panicked b2=>
    have H:=O h;clear h
    gi_wp2
    exact⟨rfl,H⟩
   |outgrown=>exact h.elim
  case done=>
   intro gl W3 hi;obtain⟨c,D,r,h1,h2,h3,h4⟩:=hi.rd;rw[List.drop_of_length_le (aa _)]at h2;obtain⟨f,v,s,k,m,h5,h6⟩:=HS.lens c D r W3 h3;obtain⟨z,hz⟩:=hi.line
   show JO 18 _ _ _ _ _
   have i4:=hi.base.sz
   have hk:∀k,k≠N+7-> ∀o,(W3.putObj (N+7) o).heap[k]? =W3.heap[k]? :=fun k hk o=>World.putObj_heap_other hk
   refine FE (fun W=>(∀k,k≠N+7->W.heap[k]? =W3.heap[k]?)/\W.heap.size=W3.heap.size/\Below N W3 W) ⟨fun k h=>hk k h _,by simp,ox (TH N W3) (by omega)⟩ ?_;rintro T ⟨q1,q2,q3⟩;have d7:=hi.base.kept (W':=T) hN (fun k hlt _ _=>q1 k (by omega)) q3;have b1:=(q1 (N+1) (by omega)).trans hz;have d6:iP (fun b=>N+8<=b/\b<T.heap.size) T r.x f v s k:=h6.kept (fun b j=>q1 b (by have:=j.1;omega)) (fun b j=>⟨j.1,by rw[q2];exact j.2⟩);have d1:=O d6;have d5:nx T (N+3) r f v s k m:=(q1 (N+3) (by omega)).trans h5;have d3:=O d7;have H2:=O h2;have d0:=O d5;have d4:=O b1;have c3:=gA b1 0;have f3:=gD b1 0;clear hk q1 q3 d7 h2 d5 b1 h1 h3 h4 h5 hz hi h6 d6;refine oW (fun K9 i1=>?_);go_wp2_with fail;refine(LE t T).mono ?_;rintro e w5 ⟨rfl,rfl⟩;have f5:=ud t []
   have i2:t.count 10<=20000:=by have:=List.count_le_length (a:=10) (l:=t);omega
   generalize hC:t.count 10=C at*;go_wp2_with fail;refine FE (fun W=>tl N w W/\W.heap[N+1]? =some (.cells #[.int .i64 ((C:Int)+1)] 3 (0,0))/\nx W (N+3) r f v s k m/\(∀b,b≠N+1->W.heap[b]? =T.heap[b]?)/\T.heap.size=W.heap.size) ?_ ?_
   .have hk:∀b,b≠N+1->(T.setCell (J (N+1)) (.int .i64 ((C:Int)+1))).heap[b]? =T.heap[b]? :=fun b j=>TI _ _ _ _ (fun e=>j e)
    exact⟨d3.kept hN (fun b _ _ h=>hk b h) ((TH N T).setCell (p:=J (N+1)) (by show N<=N+1;omega) _),gG d4 0 _,(hk _ (by omega)).trans d0,hk,by simp⟩
   rintro Q ⟨g1,g2,g3,g4,g5⟩;have c5:=gA g1.ptr 0;have c9:Q.cell? ⟨N+3,9,none⟩=some (.int .i64 r.at_):=gA g3 9;obtain⟨oa,on,oc,o1,o2⟩:=g1.tw.ord
   have f7:on=10:=by rw[<- o2.1];rfl
   subst f7;have G1:=O g1;have G2:=O g2;have G3:=O g3;have G4:=O g4;have O2:=O o2;clear g1 g2 g3 g4 o2 c3 f3 d3 d0 d4;refine oW (fun g6 f8=>?_);have b8:Below Q Q Q.drew:=⟨rfl,rfl,rfl,aa _,fun _ _=>rfl⟩;have e3:=oV c9;have e4:=oV c5;have e2:=oV o1;refine gS 8 [(0,true),(1,true),(2,true),(3,true),(4,true),(5,true),(6,true),(7,true)] (by kernel_rfl) (by kernel_rfl) ?_
   iterate 8
    refine gU (v:=?_) ?_ ?_ rfl (fun _ _ _ h=>LD (by decide) h);rotate_left
    .intro x hx
     have b9:=b8.trans (hx.mono (by simp));have z1:=(b9.cell (p:=J (N+4)) e4).trans c5;have z2:=(b9.cell (p:=⟨N+3,9,none⟩) e3).trans c9;have z3:=(b9.cell (p:=J 1) e2).trans o1;go_simp;with_reducible rfl
    try simp only[V]
   refine iu rfl ?_;have d8:tl N w Q.drew:=G1.kept hN (fun b _ _ _=>rfl) (b8.mono (by have:=G1.sz;omega));have d9:Q.drew.heap[N+1]? =some (.cells #[.int .i64 ((C:Int)+1)] 3 (0,0)):=G2.out;have e0:nx Q.drew (N+3) r f v s k m:=G3.out;have e1:iP (fun b=>N+8<=b/\b<Q.drew.heap.size) Q.drew r.x f v s k:=d1.kept (fun b j=>G4 b (by have:=j.1;omega)) (fun b j=>⟨j.1,by show b<Q.heap.size;rw[<- g5];exact j.2⟩);have d:=NU y H2;have P:=O d8;have b3:=O d9;have b4:=O e0;have b5:=O e1;have u:=O d;clear d8 d9 e0 e1 d e3 e4 e2 G1 G2 G3 G4 O2 d1 H2 c5 c9 o1 b8 g5;generalize Q.drew=W6 at*;by_cases h9:r.at_=9
   .have a5:(r.at_==9)=true:=dz.2 h9
    have d:=u.out;rw[aj (by simp[h9])]at d;clear h9 u;have u:=O d;clear d;go_wp2_with fail;rw[a5];refine(kW W6).mono ?_;rintro e w7 ⟨rfl,rfl⟩;go_wp2_with fail;clear a5;refine Cs ?_;have c5:=gA P.ptr 0
    go_wp2_with(refine tn (.tmp 38) rfl rfl rfl b4 ?_)
    refine(zw r.x f v s k W6 (b5.kept (fun _ _=>rfl) (fun b j=>j.2)) ((HP.below P.bel).mono (by have:=P.sz;omega))).mono ?_;rintro e w7 ⟨rfl,S⟩;have g0:=P.sz;have a3:tl N w w7:=P.kept hN (fun b hlt _ _=>S.block b (by omega)) (S.mono (by omega));have a6:=(S.block (N+1) (by omega)).trans b3;have a7:nx w7 (N+3) r f v s k m:=(S.block (N+3) (by omega)).trans b4;have a8:iP (fun b=>N+8<=b/\b<w7.heap.size) w7 r.x f v s k:=b5.kept (fun b j=>S.block b j.2) (fun b j=>⟨j.1,ab j.2 S.size⟩);clear c5;have F:=O a3;have a1:=O a6;have c6:=O a7;have c7:=O a8;have c5:=gA a3.ptr 0;clear a3 a6 a7 a8 S P b3 b4 b5
    have a0:∀(q:PP)(f v s k:iJ)(E:World),hU E N 37 q.x f v s k->E=w7.setCells N 0 (iw q.x f v s k)->(E.heap[N+1]? =some (.cells #[.int .i64 ((C:Int)+1)] 3 (0,0))/\E.heap[N+2]? =some (.cells #[oZ] 44 (0,0))):=fun q f v s k E _ B=>by
     rw[B];exact⟨(gK N _ 0 w7 (N+1) (by omega)).trans a1,(gK N _ 0 w7 (N+2) (by omega)).trans F.err⟩
    have g:=O a0;clear a0;by_cases hv:iI r.x=true
    .have d:=u.out
     rw[aq hv]at d;rw[hv];have a2:=O d;clear d u hv;unfold err
     go_wp2_with(first
      |(refine tn (.tmp 47) rfl rfl rfl c6 ?_)
      |(refine ja r.x f v s k F.len rfl rfl (.tmp 2) (.tmp 48) rfl rfl rfl ?_;intro E K B;have c1:=gA (g ⟨r.x,0,0⟩ f v s k E K B).1 0;have f1:=gD (g ⟨r.x,0,0⟩ f v s k E K B).1 0;have c2:=gA (g ⟨r.x,0,0⟩ f v s k E K B).2 0;have f2:=gD (g ⟨r.x,0,0⟩ f v s k E K B).2 0;have H8:=O K;have E8:=O B;clear K B))
     obtain⟨k1,k2,k3,k4,k5,k6,k7⟩:=FI (n:=0) (e:=0) F H8 E8 a1;rw[a2];exact Cu (q:=⟨r.x,0,0⟩) M k1 k2 k3 k4 (c7.kept (fun b j=>k5 b j.1) (fun b j=>⟨by rw[k6];exact j.2,by have:=j.1;omega⟩)) k7 rfl rfl rfl
    .have d:=u.out
     rw[aj hv]at d
     have e7:iI r.x=false:=by simpa using hv
     rw[e7];have a2:=O d;clear d u hv e7;unfold err
     go_wp2_with(refine ja lz ij ij ij ij F.len rfl rfl (.tmp 2) (.tmp 43) rfl rfl rfl ?_;intro E K B;have c1:=gA (g ⟨lz,0,0⟩ ij ij ij ij E K B).1 0;have f1:=gD (g ⟨lz,0,0⟩ ij ij ij ij E K B).1 0;have c2:=gA (g ⟨lz,0,0⟩ ij ij ij ij E K B).2 0;have f2:=gD (g ⟨lz,0,0⟩ ij ij ij ij E K B).2 0;have H8:=O K;have E8:=O B;clear K B)
     obtain⟨k1,k2,k3,k4,k5,k6,k7⟩:=FI (n:=0) (e:=120) F H8 E8 a1;rw[a2];exact Cu (q:=⟨lz,0,120⟩) M k1 k2 k3 k4 (DH _ _) k7 rfl rfl rfl
   .have a5:(r.at_==9)=false:=ak.2 h9
    have d:=u.out;rw[aq h9,f5]at d;clear u;have u:=O d;clear d h9;go_wp2_with fail;rw[a5];refine(lm W6).mono ?_;rintro e w7 ⟨rfl,rfl⟩;unfold iX;go_wp2_with fail;exact Ct M rfl P u b3 rfl rfl rfl
  case bad=>
   intro b2 W3 j;exact LF M y j rfl rfl rfl
end
def iq{T e B b xs w w'}(h:Lib.IsBuilder T e B b xs w)(a:Below w w w'):Lib.IsBuilder T e B b xs w':=by
 have one:∀{p:Value},Lib.BuilderAt T e B b p xs w->Lib.BuilderAt T e B b p xs w':=by
  rintro p ⟨h1,v,h2,h3,c⟩;exact⟨h1,v,(a.block b (TK h2)).trans h2,kD h3 a,c⟩
 exact h.imp one one
def LI(ws g off c w)(h:∀i x,ws[i]? =some x->w.cell? ⟨g,off+i,none⟩=some (.string (bs x)))(k:g<w.heap.size)(l:ws.length<=c)(n:ws.length<=1000000)(m:(nN ws).length<=1000000):
 Calls prog 31 #[Z (some ⟨g,off,none⟩) ws.length c,.string {data:=#[32]}] w (iZ w (.string (bs (nN ws)))):=by
 have f:(ws.map bs).map (fun b=>b.data.toList)=ws:=by rw[dD];exact fY (fun x=>rfl) ws
 have a:∀(j:Nat) x,(ws.map bs)[j]? =some x->w.cell? ⟨g,off+j,none⟩=some (.string x):=fun j x d=>by
  rw[aR]at d
  cases hw:ws[j]? with
  |none=>rw[hw]at d;cases d
  |some y=>rw[hw]at d;cases d;exact h j y hw
 have key:=Tryz.strings_Join g off c (ws.map bs) {data:=#[32]} w a k (by rw[aU];omega) (by rw[aU];omega) (by rw[f,zZ];omega);rw[aU,f,zZ]at key
 exact key.mono fun e w' h=>h
def Cv(ws g off c B b l w)(h:∀i x,ws[i]? =some x->w.cell? ⟨g,off+i,none⟩=some (.string (bs x)))(H:g<w.heap.size)(F:ws.length<=c)(K:ws.length<=1000000)(r:l.length+(iF ws).length<=1000000)(p:Lib.IsBuilder 108 5 B b (Lib.byteCells l) w)(E:B<=w.heap.size):
 Calls prog 41 #[U b,Z (some ⟨g,off,none⟩) ws.length c] w fun e w'=>e=.returned (.tuple #[])/\Lib.IsBuilder 108 5 B b (Lib.byteCells (l++iF ws)) w'/\Below B w w'/\kY b w w':=by
 have m:(iF ws).length=(nN ws).length+1:=by unfold iF;simp
 have q:Below w w w.drew:=⟨rfl,rfl,rfl,aa _,fun _ _=>rfl⟩;go_enter func41,ntmps41;refine gS 6 [(0,true),(1,true),(2,true),(3,true),(4,false),(5,true)] (by kernel_rfl) (by kernel_rfl) ?_
 iterate 4
  refine gU (v:=?_) ?_ ?_;rotate_left
  .intro x n
   go_simp;with_reducible rfl
  try simp only[V]
 refine gP (fun D k=>?_);go_simp;refine(LI ws g off c w.drew (fun i x n=>h i x n) H F K (by omega)).mono ?_;rintro e t ⟨rfl,d⟩;refine k _ _ d ?_;clear k D;(try simp only[V]);have a:Below w w t:=q.trans d;have u:bs (nN ws)++({data:=#[10]}:ByteArray)=bs (iF ws):=oQ _ [10]
 have N:(nN ws).length<=1000000:=by omega
 have j:=iq p a;have M:=a.size;have C:=O r;have L:=O m;clear r m h p;generalize hJ:nN ws=Jq0 at*;generalize hS:iF ws=S at*;clear hJ hS
 have s:¬9223372036854775807<Jq0.length+1:=by omega
 refine gU (v:=?_) ?_ ?_;rotate_left
 .intro x n
  go_simp
  try rw[aj s]
  with_reducible rfl
 (try simp only[V]);refine iu rfl ?_;go_wp2_with fail;refine(Iz B b l S t j C (by omega)).mono ?_;rintro e P ⟨rfl,h3,o,h5⟩;have y:=O h3;have z:=O o;have A:=O h5;have f:=O a;clear h3 o h5 a d j;go_wp2_with fail;go_end0;exact⟨rfl,y,(f.mono E).trans z,(kY.below f).trans A⟩
def Fz(B:Nat)(D:Nat->Prop)(W:World):Nat->Prop:=fun b=>B<=b/\b<W.heap.size/\ ¬D b
structure sT (B:Nat) (D:Nat->Prop) (W:World) (T:TypeId) (k:Nat) (p:iJ) (zs:List Int):Prop where
 row:W.ownsRow B T k p.v p.n (zs.map (Value.int .i64))
 inD:∀b,p.v.ownBlock=some b->D b
 pos:p.n=0->p.a=none
def SG(B:Nat)(D:Nat->Prop)(W:World)(k:Nat)(p:iJ)(zs:List Int):Prop:=IRp (Fz B D W) W k p.a p.n p.c zs/\(p.a=none->p.c=0)
def gT{W:World}{B k n T v xs}(h:W.ownsRow B T k v n xs){b}(a:v.ownBlock=some b):B<=b/\b<W.heap.size:=h.lt b a
def me{W W':World}{B k n T v xs}(h:W.ownsRow B T k v n xs)(c:∀b,v.ownBlock=some b->W'.heap[b]? =W.heap[b]?):W'.ownsRow B T k v n xs:=by
 obtain⟨l,r⟩:=h;refine⟨l,r.imp id ?_⟩;rintro⟨g,cap,a,e,d,f,i⟩;exact⟨g,cap,a,e,d,(c g (by rw[e];rfl)).trans f,i⟩
def NV{W B k n T a m c zs}(h:W.ownsRow B T k (.slice a m c) n (zs.map (Value.int .i64)))(S:Nat->Prop)(l:∀b,(Value.slice a m c).ownBlock=some b->S b):m=n/\IRp S W k a m c zs/\(a=none->c=0):=by
 have i:=h.1;rw[aU]at i
 rcases(mz h).2 with⟨e,h0⟩|⟨g,cap,e,o,f,d⟩
 .cases e
  subst h0;exact⟨rfl,⟨by rw[i],aa _,fun h=>absurd h (by omega)⟩,fun _=>rfl⟩
 .cases e
  refine⟨rfl,⟨i,f,fun _=>⟨g,0,rfl,l g rfl,fun j p=>?_⟩⟩,fun e=>by cases e⟩;rw[aV,d.cell (j:=j) (by rw[aU];omega)];simp[ah,ae (show j<zs.length by omega)]
def sT.irp{B}{D:Nat->Prop}{W T k p zs}(h:sT B D W T k p zs)(S:Nat->Prop)(d:∀b,p.v.ownBlock=some b->S b):IRp S W k p.a p.n p.c zs/\(p.a=none->p.c=0):=(NV h.row S d).2
def sT.nil(B)(D:Nat->Prop)(W T k):sT B D W T k ij []:=⟨World.ownsRow_nil _ _ _ _,(fun b e=>by cases e),fun _=>rfl⟩
def sT.keep{B}{D D':Nat->Prop}{W W' T k p zs}(h:sT B D W T k p zs)(c:∀b,p.v.ownBlock=some b->W'.heap[b]? =W.heap[b]?)(a:∀b,p.v.ownBlock=some b->D' b):sT B D' W' T k p zs:=
 ⟨me h.row c,a,h.pos⟩
def SG.move{B}{D D':Nat->Prop}{W W' k p zs}(h:SG B D W k p zs)(a:gN (Fz B D W) W W')(c:∀b,Fz B D W b->Fz B D' W' b):SG B D' W' k p zs:=
 ⟨h.1.kept a c,h.2⟩
def sT.freeze{B}{D D':Nat->Prop}{W W' T k p zs}(h:sT B D W T k p zs)(c:∀b,p.v.ownBlock=some b->W'.heap[b]? =W.heap[b]? /\Fz B D' W' b):SG B D' W' k p zs:=
 sT.irp (h.keep (D':=D) (fun b a=>(c b a).1) h.inD) _ (fun b a=>(c b a).2)
def lS(i at_:Int)(B:Nat)(D:Nat->Prop)(W:World)(T:TypeId)(k c:Nat)(p:iJ)(zs:List Int):Prop:=
 p.n<=c/\((at_<i/\p=ij/\zs=[])\/(at_=i/\sT B D W T k p zs)\/(i<at_/\SG B D W k p zs))
def lS.keep{i at_ B}{D:Nat->Prop}{W W' T k c p zs}(h:lS i at_ B D W T k c p zs)(d:∀b,B<=b->b<W.heap.size->W'.heap[b]? =W.heap[b]?)(e:W.heap.size<=W'.heap.size):lS i at_ B D W' T k c p zs:=by
 refine⟨h.1,h.2.imp id (Or.imp (fQ id fun h=>?_) (fQ id fun h=>?_))⟩
 .exact h.keep (fun b a=>d b (gT h.row a).1 (gT h.row a).2) h.inD
 .exact h.move (fun b a=>d b a.1 a.2.1) (fun b a=>⟨a.1,ab a.2.1 e,a.2.2⟩)
def lS.own{i at_ B}{D:Nat->Prop}{W T k c p zs}(h:lS i at_ B D W T k c p zs)(hat:at_<=i):sT B D W T k p zs:=by
 obtain ⟨_,rfl,rfl⟩|⟨_,h⟩|⟨h,_⟩:=h.2
 .exact sT.nil _ _ _ _ _
 .exact h
 .omega
def lS.close{i at_ at' B}{D D':Nat->Prop}{W W' T k c c' p zs}(h:lS i at_ B D W T k c p zs)(hat:i<at')(a:c<=c')(d:gN (Fz B D W) W W')(g:∀b,Fz B D W b->Fz B D' W' b)(f:at_=i-> ∀b,p.v.ownBlock=some b->W'.heap[b]? =W.heap[b]? /\Fz B D' W' b):lS i at' B D' W' T k c' p zs:=by
 refine⟨af h.1 a,VS (VS ⟨hat,?_⟩)⟩
 obtain ⟨_,rfl,rfl⟩|⟨e,h⟩|⟨_,h⟩:=h.2
 .exact⟨IRp.nil _ _ _ _ _,fun _=>rfl⟩
 .exact h.freeze (f e)
 .exact h.move d g
def lS.wait{i at_ at' B}{D D':Nat->Prop}{W W' T k c c' p zs}(h:lS i at_ B D W T k c p zs)(hat:at_<i)(a:at'<i)(b:c<=c'):lS i at' B D' W' T k c' p zs:=by
 refine⟨af h.1 b,VR ⟨a,?_⟩⟩
 obtain ⟨_,h⟩|⟨e,_⟩|⟨e,_⟩:=h.2
 .exact h
 .omega
 .omega
def lS.irp{i at_ B}{D:Nat->Prop}{W T k c p zs}(h:lS i at_ B D W T k c p zs):IRp (fun b=>B<=b/\b<W.heap.size) W k p.a p.n p.c zs/\(p.a=none->p.c=0):=by
 obtain ⟨_,rfl,rfl⟩|⟨e,h⟩|⟨_,h⟩:=h.2
 .exact⟨IRp.nil _ _ _ _ _,fun _=>rfl⟩
 .exact h.irp _ (fun b d=>gT h.row d)
 .exact⟨h.1.kept (gN.refl _ _) (fun b d=>⟨d.1,d.2.1⟩),h.2⟩
structure my (B:Nat) (D:Nat->Prop) (W:World) (c:Nat) (p:iJ) (m:Value) (l:List gM) (seen:List (List UInt8)) (l0:List gM) (y:gM) (css:List (List Value)) (q:iJ) (bb cap bm:Nat):Prop where
 el:l=l0++[y]
 ep:p=⟨some ⟨bb,0,none⟩,l0.length+1,cap⟩
 ecss:css.length=l0.length
 k:∀cs∈css,cs.length=22
 row:W.ownsRow B 70 22 (.slice (J bb) (l0.length+1) cap) (l0.length+1) (css.flatten++gX y.s q.a q.n q.c)
 coat:sT B D W 67 3 q y.zs
 qn:q.n<=c
 rep:∀(i:Nat)(x:gM)(cs:List Value),l0[i]? =some x->css[i]? =some cs->jE (Fz B D W) W x cs
 dbb:D bb
 i7:y.s.i7.size<=1000000
 em:m=.map (some bm)
 map:oC W bm (seen.map bs)
 dbm:D bm
 bmB:B<=bm
def oC.lt{W b ks}(h:oC W b ks):b<W.heap.size:=by
 obtain⟨c,a,h1,_⟩:=h;exact TK h1
def my.bbB{B}{D:Nat->Prop}{W c p m l seen l0 y css q a cap b}(h:my B D W c p m l seen l0 y css q a cap b):B<=a/\a<W.heap.size:=gT h.row rfl
def my.keep{B}{D:Nat->Prop}{W W' c p m l seen l0 y css q f cap e}(h:my B D W c p m l seen l0 y css q f cap e)(d:∀b,B<=b->b<W.heap.size->W'.heap[b]? =W.heap[b]?)(g:W.heap.size<=W'.heap.size):my B D W' c p m l seen l0 y css q f cap e:=
 ⟨h.el,h.ep,h.ecss,h.k,me h.row (fun b a=>d b (gT h.row a).1 (gT h.row a).2),h.coat.keep (fun b a=>d b (gT h.coat.row a).1 (gT h.coat.row a).2) h.coat.inD,h.qn,
   fun i x cs h1 h2=>iD.kept (h.rep i x cs h1 h2) (fun b a=>d b a.1 a.2.1) (fun b a=>⟨a.1,ab a.2.1 g,a.2.2⟩),h.dbb,h.i7,h.em,h.map.block (d e h.bmB h.map.lt),h.dbm,h.bmB⟩
def NW{W B k n T α R}(ok:kR k R){a cap}{css:List (List Value)}{l}(h:W.ownsRow B T k (.slice (J a) n cap) n css.flatten)(r:l.length=n)(f:∀cs∈css,cs.length=k)(w:css.length=l.length){S:Nat->Prop}(d:S a)(s:∀(i:Nat)(x:α)(cs:List Value),l[i]? =some x->css[i]? =some cs->R S W x cs):RR R k S W (J a) n cap l:=by
 obtain ⟨e,_⟩|⟨g,p,u,e,y,z,t,A,C,D⟩:=h.2
 .cases e
 .cases e
  refine⟨r,t,fun h0=>⟨a,0,rfl,d,fun i x o=>?_⟩⟩;have hi:=(TG.1 o).1;have c:css[i]? =some css[i]:=ae (by omega);refine⟨css[i],s i x _ o c,fun j v m=>?_⟩
  have q:j<k:=by
   have:=(TG.1 m).1;rw[f css[i] (cW _)]at this;exact this
  have b:=h.cells (g:=a) rfl (i*k+j) v (by rw[mC css i _ j f c q];exact m);rw[Addr.add_mid,<- cN]at b;exact b
def my.last{B}{D:Nat->Prop}{W c p m l seen l0 y css q d cap e}(h:my B D W c p m l seen l0 y css q d cap e){S:Nat->Prop}(f:∀b,q.v.ownBlock=some b->S b)(g:c<=1000000):jE S W y (gX y.s q.a q.n q.c):=by
 obtain⟨h1,h2⟩:=h.coat.irp S f;exact⟨q.a,q.n,q.c,rfl,h1,by have:=h.qn;omega,h2,by have:=h.i7;omega⟩
def my.rr{B}{D:Nat->Prop}{W c p m l seen l0 y css q f cap o}(h:my B D W c p m l seen l0 y css q f cap o){S:Nat->Prop}(h1:∀b,Fz B D W b->S b)(h2:S f)(h3:∀b,q.v.ownBlock=some b->S b)(r:c<=1000000):RR jE 22 S W p.a p.n p.c l:=by
 have j:=h.ecss;rw[h.ep,h.el];refine NW (css:=css++[gX y.s q.a q.n q.c]) iD (by simpa using h.row) (by simp) (fun cs d=>?_) (by simp[j]) h2 (fun i x cs e d=>?_)
 .obtain d|d:=bj.1 d
  .exact h.k cs d
  .simp only[aK]at d;subst d;rfl
 .by_cases hi:i<l0.length
  .rw[aF hi]at e
   rw[aF (by omega)]at d;exact iD.kept (h.rep i x cs e d) (gN.refl _ _) h1
  .have g:i=l0.length:=by
    have:=(TG.1 e).1;simp at this;omega
   subst g;simp only[bT,bA]at e;rw[<- j]at d;simp only[bT,bA]at d;subst e;subst d;exact h.last h3 r
def nG(at_:Int)(B:Nat)(D:Nat->Prop)(W:World)(c:Nat)(p:iJ)(m:Value)(l:List gM)(seen:List (List UInt8)):Prop:=
 p.n<=c/\((at_<7/\p=ij/\l=[])\/(at_=7/\ ∃l0 y css q b cap d,my B D W c p m l seen l0 y css q b cap d)\/(7<at_/\RR jE 22 (Fz B D W) W p.a p.n p.c l))
def nG.keep{at_ B}{D:Nat->Prop}{W W' c p m l seen}(h:nG at_ B D W c p m l seen)(d:∀b,B<=b->b<W.heap.size->W'.heap[b]? =W.heap[b]?)(e:W.heap.size<=W'.heap.size):nG at_ B D W' c p m l seen:=by
 refine⟨h.1,h.2.imp id (Or.imp (fQ id fun h=>?_) (fQ id fun h=>?_))⟩
 .obtain⟨l0,y,css,q,f,cap,g,h⟩:=h
  exact⟨l0,y,css,q,f,cap,g,h.keep d e⟩
 .exact h.kept iD (fun b a=>d b a.1 a.2.1) (fun b a=>⟨a.1,ab a.2.1 e,a.2.2⟩)
def nG.wait{at_ at' B}{D D':Nat->Prop}{W W' c c' p m m' l seen a}(h:nG at_ B D W c p m l seen)(hat:at_<7)(b:at'<7)(d:c<=c'):nG at' B D' W' c' p m' l a:=by
 refine⟨af h.1 d,VR ⟨b,?_⟩⟩
 obtain ⟨_,h⟩|⟨e,_⟩|⟨e,_⟩:=h.2
 .exact h
 .omega
 .omega
def nG.close{at_ at' B}{D D':Nat->Prop}{W W' c c' p m m' l seen d}(h:nG at_ B D W c p m l seen)(hat:7<at')(i:c<=c')(f:c<=1000000)(j:gN (Fz B D W) W W')(k:∀b,Fz B D W b->Fz B D' W' b)(g:at_=7-> ∀b,B<=b->b<W.heap.size->W'.heap[b]? =W.heap[b]? /\Fz B D' W' b):nG at' B D' W' c' p m' l d:=by
 refine⟨af h.1 i,VS (VS ⟨hat,?_⟩)⟩
 obtain ⟨_,rfl,rfl⟩|⟨e,l0,y,css,q,n,cap,o,h⟩|⟨_,h⟩:=h.2
 .exact RR.nil _ _ _ _ _ _
 .exact(h.rr (S:=fun b=>B<=b/\b<W.heap.size) (fun b a=>⟨a.1,a.2.1⟩) h.bbB (fun b a=>gT h.coat.row a) f).kept iD (fun b a=>(g e b a.1 a.2).1) (fun b a=>(g e b a.1 a.2).2)
 .exact h.kept iD j k
def nG.rr{at_ B}{D:Nat->Prop}{W c p m l seen}(h:nG at_ B D W c p m l seen)(f:c<=1000000):RR jE 22 (fun b=>B<=b/\b<W.heap.size) W p.a p.n p.c l:=by
 obtain ⟨_,rfl,rfl⟩|⟨e,l0,y,css,q,g,cap,i,h⟩|⟨_,h⟩:=h.2
 .exact RR.nil _ _ _ _ _ _
 .exact h.rr (fun b d=>⟨d.1,d.2.1⟩) h.bbB (fun b d=>gT h.coat.row d) f
 .exact h.kept iD (gN.refl _ _) (fun b d=>⟨d.1,d.2.1⟩)
structure qL (B:Nat) (D:Nat->Prop) (W:World) (c:Nat) (p:iJ) (l:List jd) (l0:List jd) (y:jd) (css:List (List Value)) (q:iJ) (bb cap:Nat):Prop where
 el:l=l0++[y]
 ep:p=⟨some ⟨bb,0,none⟩,l0.length+1,cap⟩
 ecss:css.length=l0.length
 k:∀cs∈css,cs.length=2
 row:W.ownsRow B 75 2 (.slice (J bb) (l0.length+1) cap) (l0.length+1) (css.flatten++[.string y.nm,.slice q.a q.n q.c])
 coat:sT B D W 72 3 q y.zs
 qn:q.n<=c
 rep:∀(i:Nat)(x:jd)(cs:List Value),l0[i]? =some x->css[i]? =some cs->oB (Fz B D W) W x cs
 dbb:D bb
 nm:y.nm.size<=1000000
def qL.bbB{B}{D:Nat->Prop}{W c p l l0 y css q a cap}(h:qL B D W c p l l0 y css q a cap):B<=a/\a<W.heap.size:=gT h.row rfl
def qL.keep{B}{D:Nat->Prop}{W W' c p l l0 y css q e cap}(h:qL B D W c p l l0 y css q e cap)(d:∀b,B<=b->b<W.heap.size->W'.heap[b]? =W.heap[b]?)(f:W.heap.size<=W'.heap.size):qL B D W' c p l l0 y css q e cap:=
 ⟨h.el,h.ep,h.ecss,h.k,me h.row (fun b a=>d b (gT h.row a).1 (gT h.row a).2),h.coat.keep (fun b a=>d b (gT h.coat.row a).1 (gT h.coat.row a).2) h.coat.inD,h.qn,
   fun i x cs h1 h2=>ky.kept (h.rep i x cs h1 h2) (fun b a=>d b a.1 a.2.1) (fun b a=>⟨a.1,ab a.2.1 f,a.2.2⟩),h.dbb,h.nm⟩
def qL.last{B}{D:Nat->Prop}{W c p l l0 y css q d cap}(h:qL B D W c p l l0 y css q d cap){S:Nat->Prop}(e:∀b,q.v.ownBlock=some b->S b)(f:c<=1000000):oB S W y [y.nm,Z q.a q.n q.c]:=by
 obtain⟨h1,h2⟩:=h.coat.irp S e;exact⟨q.a,q.n,q.c,rfl,h1,by have:=h.qn;omega,h2,by have:=h.nm;omega⟩
def qL.rr{B}{D:Nat->Prop}{W c p l l0 y css q f cap}(h:qL B D W c p l l0 y css q f cap){S:Nat->Prop}(h1:∀b,Fz B D W b->S b)(h2:S f)(h3:∀b,q.v.ownBlock=some b->S b)(m:c<=1000000):RR oB 2 S W p.a p.n p.c l:=by
 have j:=h.ecss;rw[h.ep,h.el];refine NW (css:=css++[[.string y.nm,.slice q.a q.n q.c]]) ky (by simpa using h.row) (by simp) (fun cs d=>?_) (by simp[j]) h2 (fun i x cs e d=>?_)
 .obtain d|d:=bj.1 d
  .exact h.k cs d
  .simp only[aK]at d;subst d;rfl
 .by_cases hi:i<l0.length
  .rw[aF hi]at e
   rw[aF (by omega)]at d;exact ky.kept (h.rep i x cs e d) (gN.refl _ _) h1
  .have g:i=l0.length:=by
    have:=(TG.1 e).1;simp at this;omega
   subst g;simp only[bT,bA]at e;rw[<- j]at d;simp only[bT,bA]at d;subst e;subst d;exact h.last h3 m
def nH(at_:Int)(B:Nat)(D:Nat->Prop)(W:World)(c:Nat)(p:iJ)(l:List jd):Prop:=
 p.n<=c/\((at_<8/\p=ij/\l=[])\/(at_=8/\ ∃l0 y css q b cap,qL B D W c p l l0 y css q b cap)\/(8<at_/\RR oB 2 (Fz B D W) W p.a p.n p.c l))
def nH.keep{at_ B}{D:Nat->Prop}{W W' c p l}(h:nH at_ B D W c p l)(d:∀b,B<=b->b<W.heap.size->W'.heap[b]? =W.heap[b]?)(e:W.heap.size<=W'.heap.size):nH at_ B D W' c p l:=by
 refine⟨h.1,h.2.imp id (Or.imp (fQ id fun h=>?_) (fQ id fun h=>?_))⟩
 .obtain⟨l0,y,css,q,f,cap,h⟩:=h
  exact⟨l0,y,css,q,f,cap,h.keep d e⟩
 .exact h.kept ky (fun b a=>d b a.1 a.2.1) (fun b a=>⟨a.1,ab a.2.1 e,a.2.2⟩)
def nH.wait{at_ at' B}{D D':Nat->Prop}{W W' c c' p l}(h:nH at_ B D W c p l)(hat:at_<8)(a:at'<8)(b:c<=c'):nH at' B D' W' c' p l:=by
 refine⟨af h.1 b,VR ⟨a,?_⟩⟩
 obtain ⟨_,h⟩|⟨e,_⟩|⟨e,_⟩:=h.2
 .exact h
 .omega
 .omega
def nH.close{at_ at' B}{D D':Nat->Prop}{W W' c c' p l}(h:nH at_ B D W c p l)(hat:8<at')(g:c<=c')(d:c<=1000000)(i:gN (Fz B D W) W W')(j:∀b,Fz B D W b->Fz B D' W' b)(f:at_=8-> ∀b,B<=b->b<W.heap.size->W'.heap[b]? =W.heap[b]? /\Fz B D' W' b):nH at' B D' W' c' p l:=by
 refine⟨af h.1 g,VS (VS ⟨hat,?_⟩)⟩
 obtain ⟨_,rfl,rfl⟩|⟨e,l0,y,css,q,k,cap,h⟩|⟨_,h⟩:=h.2
 .exact RR.nil _ _ _ _ _ _
 .exact(h.rr (S:=fun b=>B<=b/\b<W.heap.size) (fun b a=>⟨a.1,a.2.1⟩) h.bbB (fun b a=>gT h.coat.row a) d).kept ky (fun b a=>(f e b a.1 a.2).1) (fun b a=>(f e b a.1 a.2).2)
 .exact h.kept ky i j
def nH.rr{at_ B}{D:Nat->Prop}{W c p l}(h:nH at_ B D W c p l)(f:c<=1000000):RR oB 2 (fun b=>B<=b/\b<W.heap.size) W p.a p.n p.c l:=by
 obtain ⟨_,rfl,rfl⟩|⟨e,l0,y,css,q,g,cap,h⟩|⟨_,h⟩:=h.2
 .exact RR.nil _ _ _ _ _ _
 .exact h.rr (fun b d=>⟨d.1,d.2.1⟩) h.bbB (fun b d=>gT h.coat.row d) f
 .exact h.kept ky (gN.refl _ _) (fun b d=>⟨d.1,d.2.1⟩)
structure AX (B g c:Nat) (D:Nat->Prop) (r:jL) (W:World) (f v s k:iJ) (m:Value):Prop where
 gB:g<B
 c1:c<=100002
 dg:D g
 own:∀b,D b->(b=g\/B<=b)/\b<W.heap.size
 lo: -1<=r.at_
 hi:r.at_<=9
 nm:r.x.nm.size<=1000000
 fs:lS 5 r.at_ B D W 112 2 c f r.x.fs
 ws:lS 6 r.at_ B D W 63 2 c v r.x.ws
 l:nG r.at_ B D W c s m r.x.l r.seen
 cf:nH r.at_ B D W c k r.x.cf
def AX.keep{B g c}{D:Nat->Prop}{r W W' f v s k m}(h:AX B g c D r W f v s k m)(d:∀b,B<=b->b<W.heap.size->W'.heap[b]? =W.heap[b]?)(a:W.heap.size<=W'.heap.size):AX B g c D r W' f v s k m:=
 ⟨h.gB,h.c1,h.dg,fun b e=>⟨(h.own b e).1,ab (h.own b e).2 a⟩,h.lo,h.hi,h.nm,h.fs.keep d a,h.ws.keep d a,h.l.keep d a,h.cf.keep d a⟩
def AX.lensAt{B g c}{D:Nat->Prop}{r W f v s k m}(h:AX B g c D r W f v s k m):iP (fun b=>B<=b/\b<W.heap.size) W r.x f v s k:=by
 have d:=h.c1;have h1:=h.fs.1;have h2:=h.ws.1;have h3:=h.l.1;have a:=h.cf.1;exact⟨h.fs.irp.1,h.ws.irp.1,h.l.rr (by omega),h.cf.rr (by omega),by omega,by omega,by omega,by omega,h.fs.irp.2,h.ws.irp.2,by have:=h.nm;omega⟩
def jm(W:World)(g:Nat)(x:gR)(at_:Int)(f v s k:iJ)(m:Value):Prop:=W.heap[g]? =some (.cells (iw x f v s k++[.int .i64 at_,m]).toArray 128 (0,0))
def vM(B g:Nat)(a:Int)(c:Nat)(D:Nat->Prop)(r:jL)(W:World):Prop:=∃f v s k m,jm W g r.x a f v s k m/\AX B g c D r W f v s k m
def At(B g:Nat)(c:Nat)(D:Nat->Prop)(r:jL)(W:World):Prop:=vM B g r.at_ c D r W
def NX{B g W}(c:g<B)(h:nx W g Ae ij ij ij ij (.map none)):At B g 0 (fun b=>b=g) Ae W:=
 ⟨ij,ij,ij,ij,.map none,h,c,by omega,rfl,fun b a=>⟨VR a,by rw[a];exact TK h⟩,by decide,by decide,by decide,
   ⟨aa _,VR ⟨by decide,rfl,rfl⟩⟩,⟨aa _,VR ⟨by decide,rfl,rfl⟩⟩,⟨aa _,VR ⟨by decide,rfl,rfl⟩⟩,⟨aa _,VR ⟨by decide,rfl,rfl⟩⟩⟩
def vM.keep{B g a c}{D:Nat->Prop}{r W W'}(h:vM B g a c D r W)(d:∀b,b=g\/B<=b->b<W.heap.size->W'.heap[b]? =W.heap[b]?)(i:W.heap.size<=W'.heap.size):vM B g a c D r W':=by
 obtain⟨f,v,s,k,m,h1,h2⟩:=h;exact⟨f,v,s,k,m,(d g (VR rfl) (TK h1)).trans h1,h2.keep (fun b e=>d b (VS e)) i⟩
def vM.go{B g a c}{D:Nat->Prop}{r W W'}(h:vM B g a c D r W)(d:Below W W W'):vM B g a c D r W':=h.keep (fun b _ e=>d.block b e) d.size
def vM.put{B g a c}{D:Nat->Prop}{r W}(h:vM B g a c D r W):At B g c D r (W.setCell ⟨g,9,none⟩ (.int .i64 r.at_)):=by
 obtain⟨f,v,s,k,m,h1,h2⟩:=h;have i:=h2.gB;refine⟨f,v,s,k,m,?_,h2.keep (fun b d _=>TI _ _ _ _ (fun e=>by have:b=g:=e;omega)) (by simp)⟩;have:=gG h1 9 (.int .i64 r.at_);simp only[iw,bK,bF,bD,aZ,aW]at this;exact this
def iE(B g:Nat)(d:Int)(c:Nat)(D:Nat->Prop)(a:Option jL)(W:World)(e:Ending)(W':World):Prop:=
 Below g W W'/\(∀k,k<W.heap.size-> ¬D k->W'.heap[k]? =W.heap[k]?)/\
  ((∃q,a=some q/\e=.returned (.tuple #[])/\ ∃D':Nat->Prop,(∀b,D' b->D b\/W.heap.size<=b)/\vM B g d (c+1) D' q W')\/(a=none/\e=iX))
def iE.bad{B g b c}{D:Nat->Prop}{a}{W W':World}(h:a=none)(d:Below W W W')(e:g<=W.heap.size):iE B g b c D a W iX W':=
 ⟨d.mono e,fun k f _=>d.block k f,VS ⟨h,rfl⟩⟩
def FJ(B b l w)(h:Lib.IsBuilder 108 5 B b (Lib.byteCells l) w)(h0:l≠[]):
 Calls prog 30 #[U b] w fun e w'=>e=.returned (.string (bs l))/\Below B w w':=by
 obtain⟨p,E,v,i,c,D⟩:∃p,Lib.BuilderAt 108 5 B b p (Lib.byteCells l) w:=by
  obtain h|h:=h
  .exact⟨_,h⟩
  .exact⟨_,h⟩
 have n:l.length≠0:=by simpa using h0
 rw[Lib.byteCells_length]at c
 obtain⟨g,cap,a,rfl,f,o,C,k,A,d⟩:∃g cap a,v=.slice (J g) l.length cap/\B<=g/\w.heap[g]? =some (.cells a 5 (0,0))/\l.length<=cap/\cap<=maxLen/\a.size=cap*1/\a.toList.take (l.length*1)=Lib.byteCells l:=by
  obtain ⟨_,u⟩|⟨g,cap,a,s,r⟩:=c.2
  .exact absurd u n
  .exact⟨g,cap,a,s,r⟩
 have c1:w.drew.cell? ⟨b,1,none⟩=some (.slice (J g) l.length cap):=by
  have q:w.drew.heap[b]? =some (.cells #[p,Z (J g) l.length cap] 108 (0,0)):=i;exact gA q 1
 have y:(Builtin.unsafeSliceData_ #[24] 146 #[Z (J g) l.length cap]).run prog w.drew=.ok (.pointer (J g)) w.drew:=
  Lib.run_unsafeSliceData_row _ _ _ _ _ _ (by omega)
 have z:(Builtin.unsafeString_ #[146,3] 9 #[U g,l.length]).run prog w.drew=.ok (.string (bs l)) (w.drew.freeze (J g) l.length):=by
  refine Lib.run_unsafeString_row w.drew 146 3 9 5 underlying146 (by kernel_rfl) g a.size (by have m:w.drew.heap[g]? =some (.cells a 5 (0,0)):=o;simp[World.shape?,m]) l h0 (by omega) (by unfold maxLen at k;omega) ?_;intro j x t;exact c.cells (g:=g) rfl j (.int .u8 x.toNat) (by simp[Lib.byteCells,t])
 have mixed:prog.follows .mixedOrders=true:=by kernel_rfl
 go_enter func30,ntmps30;go_wp2;go_region_o
 all_goals(go_wp2;go_ret;exact⟨rfl,Lib.below_freeze (Below.drew (TH B w)) (p:=J g) f _⟩)
structure nI (W W':World) (v:Value) (g2:Nat):Prop where
 kept:∀b,b<W.heap.size->v.ownBlock≠some b->W'.heap[b]? =W.heap[b]?
 size:W.heap.size<=W'.heap.size
 os:W'.os=W.os
 tape:W'.tape=W.tape
 output:W'.output=W.output
 hat:v.ownBlock=some g2\/W.heap.size<=g2
 lt:g2<W'.heap.size
def LJ{W d W':World}{v g2 H}(a:Below W W d)(c:d.grownBy W' v.ownBlock)(hat:v.ownBlock=some g2\/g2=H)(f:W.heap.size<=H)(hlt:g2<W'.heap.size):nI W W' v g2:=
 ⟨fun b h1 h2=>(c.block b (ab h1 a.size) (fun e=>h2 e.symm)).trans (a.block b h1),af a.size c.size,c.os.trans a.os,c.tape.trans a.tape,c.output.trans a.output,hat.imp id (fun e=>by omega),hlt⟩
def nI.below{W W' v g2 g}(h:nI W W' v g2)(c:g<=W.heap.size)(a:∀b,v.ownBlock=some b->g<=b):Below g W W':=
 ⟨h.os,h.tape,h.output,h.size,fun k d=>h.kept k (by omega) (fun e=>by have:=a k e;omega)⟩
def lS.grow{i at_ B}{D D':Nat->Prop}{W W' T k c p zs d g2 cap}(h:lS i at_ B D W T k c p zs)(a:W'.ownsRow B T k (.slice (J g2) (p.n+1) cap) (p.n+1) (zs.map (Value.int .i64)++d.map (Value.int .i64)))(f:D' g2):lS i i B D' W' T k (c+1) ⟨some ⟨g2,0,none⟩,p.n+1,cap⟩ (zs++d):=
 ⟨by have:=h.1;show p.n+1<=c+1;omega,VS (VR ⟨rfl,by rw[aT];exact a,(fun b e=>by cases e;exact f),fun e=>by have:p.n+1=0:=e;omega⟩)⟩
def NY{B g g2}{D:Nat->Prop}{W W' v}(d:g<B)(c:∀b,v.ownBlock=some b->D b)(h:nI W W' v g2):(∀b,Fz B D W b->W'.heap[b]? =W.heap[b]?)/\ ∀b,Fz B D W b->Fz B (fun b=>b=g\/b=g2) W' b:=by
 refine⟨fun b a=>h.kept b a.2.1 (fun e=>a.2.2 (c b e)),fun b a=>⟨a.1,ab a.2.1 h.size,?_⟩⟩;rintro(e|e)
 .have:=a.1;omega
 .obtain e2|e2:=h.hat
  .exact a.2.2 (c b (by rw[e];exact e2))
  .have:=a.2.1;omega
def nJ{W g x d a f v s k b c s' k' m m' j u}(h:jm W g x a f v s k m)(e:(iw x f v s k++[.int .i64 a,m]).set j u=iw d b c s' k'++[.int .i64 a,m']):jm (W.setCell ⟨g,j,none⟩ u) g d a b c s' k' m':=by
 have:=gG h j u;rw[bK,e]at this;exact this
def kZ{B W W' g j u}(h:Below B W W')(a:B<=g):Below B W (W'.setCell ⟨g,j,none⟩ u):=h.setCell (p:=⟨g,j,none⟩) a u
def iS{W:World}{g j b u}(h:b≠g):(W.setCell ⟨g,j,none⟩ u).heap[b]? =W.heap[b]? :=TI _ _ _ _ (fun e=>h e)
def LK{B g e c}{D:Nat->Prop}{r W f v s k m a}{n j:Nat}{u}(w:jm W g r.x e f v s k m)(d:AX B g c D r W f v s k m)(y:(iw r.x f v s k++[.int .i64 e,m]).set j u=iw a f v s k++[.int .i64 e,m])(z:a.fs=r.x.fs/\a.ws=r.x.ws/\a.l=r.x.l/\a.cf=r.x.cf)(i:a.nm.size<=1000000)(hat:r.at_<5)(A:n<5)(h1:c<=100001):vM B g e (c+1) D ⟨a,(n:Int),[]⟩ (W.setCell ⟨g,j,none⟩ u):=by
 obtain⟨o,p,q,t⟩:=z;refine⟨f,v,s,k,m,nJ w y,d.gB,by omega,d.dg,fun b h=>⟨(d.own b h).1,by simpa using(d.own b h).2⟩,by show(-1:Int)<=(n:Int);omega,by show(n:Int)<=9;omega,i,?_,?_,?_,?_⟩
 .show lS 5 (n:Int) _ _ _ _ _ _ _ a.fs
  rw[o];exact d.fs.wait (by omega) (by omega) (by omega)
 .show lS 6 (n:Int) _ _ _ _ _ _ _ a.ws
  rw[p];exact d.ws.wait (by omega) (by omega) (by omega)
 .show nG (n:Int) _ _ _ _ _ _ a.l _
  rw[q];exact d.l.wait (by omega) (by omega) (by omega)
 .show nH (n:Int) _ _ _ _ _ a.cf
  rw[t];exact d.cf.wait (by omega) (by omega) (by omega)
def qM{B g d c}{D:Nat->Prop}{r}{i W:World}{f v s k m a}{n j:Nat}{u o}(F:o=some ⟨a,(n:Int),[]⟩)(q:Below i i W)(A:jm W g r.x d f v s k m)(p:AX B g c D r W f v s k m)(C:(iw r.x f v s k++[.int .i64 d,m]).set j u=iw a f v s k++[.int .i64 d,m])(H:a.fs=r.x.fs/\a.ws=r.x.ws/\a.l=r.x.l/\a.cf=r.x.cf)(z:a.nm.size<=1000000)(hat:r.at_<5)(E:n<5)(h1:c<=100001)(y:g<=i.heap.size):iE B g d c D o i (.returned (.tuple #[])) (W.setCell ⟨g,j,none⟩ u):=
 ⟨kZ (q.mono y) (aa _),fun b t w=>(iS (fun e=>w (by rw[e];exact p.dg))).trans (q.block b t),VR ⟨_,F,rfl,D,fun _ h=>VR h,LK A p C H z hat E h1⟩⟩
def FK{B g i c}{D:Nat->Prop}{r}{h W W':World}{f v s k m u g2 cap t}(z:t=some ⟨{r.x with fs:=r.x.fs++u},5,[]⟩)(d:Below h h W)(hA:jm W g r.x i f v s k m)(hL:AX B g c D r W f v s k m)(hrow:W'.ownsRow B 112 2 (.slice (J g2) (f.n+1) cap) (f.n+1) (r.x.fs.map (Value.int .i64)++u.map (Value.int .i64)))(hgr:nI W W' f.v g2)(hg2:B<=g2)(hat:r.at_<=5)(h1:c<=100001)(hg0:B<=h.heap.size):
 iE B g i c D t h (.returned (.tuple #[])) (W'.setCell ⟨g,5,none⟩ (.slice (J g2) (f.n+1) cap)):=by
 have q:=hL.gB;have a:=hL.fs.own hat;have hlt:=TK hA
 have j:f.v.ownBlock≠some g:=fun e=>by have:=(gT a.row e).1;omega
 have w:jm W' g r.x i f v s k m:=(hgr.kept g hlt j).trans hA
 have y:∀b,(b=g\/b=g2)->D b\/h.heap.size<=b:=by
  rintro b (e|e)
  .exact VR (by rw[e];exact hL.dg)
  .obtain e2|e2:=hgr.hat
   .exact VR (by rw[e];exact a.inD g2 e2)
   .exact VS (by have:=d.size;omega)
 obtain⟨A,C⟩:=NY q a.inD hgr;refine⟨kZ ((d.mono (by omega)).trans (hgr.below (by omega) (fun b e=>by have:=(gT a.row e).1;omega))) (aa _),fun b o p=>?_,VR ⟨_,z,rfl,fun b=>b=g\/b=g2,y,⟨⟨some ⟨g2,0,none⟩,f.n+1,cap⟩,v,s,k,m,?_,?_⟩⟩⟩
 .exact(iS (fun e=>p (by rw[e];exact hL.dg))).trans ((hgr.kept b (ab o d.size) (fun e=>p (a.inD b e))).trans (d.block b o))
 .exact nJ w rfl
 .have key:AX B g (c+1) (fun b=>b=g\/b=g2) ⟨{r.x with fs:=r.x.fs++u},5,[]⟩ W' ⟨some ⟨g2,0,none⟩,f.n+1,cap⟩ v s k m:=
   ⟨q,by omega,VR rfl,fun b d=>by
     obtain e|e:=d
     .exact⟨VR e,by rw[e];exact ab hlt hgr.size⟩
     .exact⟨VS (by rw[e];exact hg2),by rw[e];exact hgr.lt⟩,(by dsimp only;omega),(by dsimp only;omega),hL.nm,hL.fs.grow hrow (VS rfl),hL.ws.wait (by omega) (by dsimp only;omega) (by omega),hL.l.wait (by omega) (by dsimp only;omega) (by omega),hL.cf.wait (by omega) (by dsimp only;omega) (by omega)⟩
  exact key.keep (fun b d _=>iS (by omega)) (by simp)
def IC{B g o c}{D:Nat->Prop}{r}{j W W':World}{f v s k m y g2 cap w}(H:w=some ⟨{r.x with ws:=r.x.ws++y},6,[]⟩)(i:Below j j W)(hA:jm W g r.x o f v s k m)(hL:AX B g c D r W f v s k m)(hrow:W'.ownsRow B 63 2 (.slice (J g2) (v.n+1) cap) (v.n+1) (r.x.ws.map (Value.int .i64)++y.map (Value.int .i64)))(hgr:nI W W' v.v g2)(hg2:B<=g2)(hat:r.at_<=6)(h1:c<=100001)(hg0:B<=j.heap.size):
 iE B g o c D w j (.returned (.tuple #[])) (W'.setCell ⟨g,6,none⟩ (.slice (J g2) (v.n+1) cap)):=by
 have t:=hL.gB;have a:=hL.ws.own hat;have hlt:=TK hA
 have p:v.v.ownBlock≠some g:=fun e=>by have:=(gT a.row e).1;omega
 have z:jm W' g r.x o f v s k m:=(hgr.kept g hlt p).trans hA
 have A:∀b,(b=g\/b=g2)->D b\/j.heap.size<=b:=by
  rintro b (e|e)
  .exact VR (by rw[e];exact hL.dg)
  .obtain e2|e2:=hgr.hat
   .exact VR (by rw[e];exact a.inD g2 e2)
   .exact VS (by have:=i.size;omega)
 obtain⟨E,F⟩:=NY t a.inD hgr;refine⟨kZ ((i.mono (by omega)).trans (hgr.below (by omega) (fun b e=>by have:=(gT a.row e).1;omega))) (aa _),fun b q d=>?_,VR ⟨_,H,rfl,fun b=>b=g\/b=g2,A,⟨f,⟨some ⟨g2,0,none⟩,v.n+1,cap⟩,s,k,m,?_,?_⟩⟩⟩
 .exact(iS (fun e=>d (by rw[e];exact hL.dg))).trans ((hgr.kept b (ab q i.size) (fun e=>d (a.inD b e))).trans (i.block b q))
 .exact nJ z rfl
 .have key:AX B g (c+1) (fun b=>b=g\/b=g2) ⟨{r.x with ws:=r.x.ws++y},6,[]⟩ W' f ⟨some ⟨g2,0,none⟩,v.n+1,cap⟩ s k m:=
   ⟨t,by omega,VR rfl,fun b i=>by
     obtain e|e:=i
     .exact⟨VR e,by rw[e];exact ab hlt hgr.size⟩
     .exact⟨VS (by rw[e];exact hg2),by rw[e];exact hgr.lt⟩,(by dsimp only;omega),(by dsimp only;omega),hL.nm,hL.fs.close (by dsimp only;omega) (by omega) E F (fun K b C=>?_),hL.ws.grow hrow (VS rfl),hL.l.wait (by omega) (by dsimp only;omega) (by omega),hL.cf.wait (by omega) (by dsimp only;omega) (by omega)⟩
  .exact key.keep (fun b i _=>iS (by omega)) (by simp)
  .
   have u:v=ij:=by
    obtain ⟨_,h,_⟩|⟨h,_⟩|⟨h,_⟩:=hL.ws.2
    .exact h
    .omega
    .omega
   have d:=gT (hL.fs.own (by omega)).row C;refine⟨hgr.kept b d.2 (by rw[u];intro e;cases e),d.1,ab d.2 hgr.size,?_⟩;rintro(e|e)
   .omega
   .obtain e2|e2:=hgr.hat
    .rw[u]at e2;cases e2
    .omega
def LL{B g o c}{D:Nat->Prop}{r}{n W:World}{p}(w:p=some ⟨r.x,9,[]⟩)(d:Below n n W)(h:vM B g o c D r W)(hat:r.at_<=8)(h1:c<=100001)(y:B<=n.heap.size):
 iE B g o c D p n (.returned (.tuple #[])) W:=by
 obtain⟨f,v,s,k,m,q,i⟩:=h;have u:=i.gB;have hlt:=TK q
 have a:∀b,B<=b->b<W.heap.size->W.heap[b]? =W.heap[b]? /\Fz B (fun b=>b=g) W b:=fun b h2 h3=>⟨rfl,h2,h3,by intro e;omega⟩
 refine⟨d.mono (by omega),fun b t _=>d.block b t,VR ⟨_,w,rfl,fun b=>b=g,fun b e=>VR (by rw[e];exact i.dg),f,v,s,k,m,q,u,by omega,rfl,fun b e=>⟨VR e,by rw[e];exact hlt⟩,(by dsimp only;omega),(by dsimp only;omega),i.nm,?_,?_,?_,?_⟩⟩
 .exact i.fs.close (by dsimp only;omega) (by omega) (fun b _=>rfl) (fun b d=>(a b d.1 d.2.1).2) (fun e b j=>a b (gT (i.fs.own (by omega)).row j).1 (gT (i.fs.own (by omega)).row j).2)
 .exact i.ws.close (by dsimp only;omega) (by omega) (fun b _=>rfl) (fun b d=>(a b d.1 d.2.1).2) (fun e b j=>a b (gT (i.ws.own (by omega)).row j).1 (gT (i.ws.own (by omega)).row j).2)
 .exact i.l.close (by show(7:Int) <9;decide) (by omega) (by omega) (fun b _=>rfl) (fun b d=>(a b d.1 d.2.1).2) (fun _ b h2 h3=>a b h2 h3)
 .exact i.cf.close (by show(8:Int) <9;decide) (by omega) (by omega) (fun b _=>rfl) (fun b d=>(a b d.1 d.2.1).2) (fun _ b h2 h3=>a b h2 h3)
structure xq {α:Type} (R:pB α) (k:Nat) (T:TypeId) (B:Nat) (D:Nat->Prop) (W:World) (p:iJ) (l:List α) (css:List (List Value)):Prop where
 row:W.ownsRow B T k p.v p.n css.flatten
 len:css.length=l.length
 n:p.n=l.length
 k:∀cs∈css,cs.length=k
 rep:∀(i:Nat)(x:α)(cs:List Value),l[i]? =some x->css[i]? =some cs->R (fun b=>B<=b/\b<W.heap.size/\p.v.ownBlock≠some b) W x cs
 inD:∀b,p.v.ownBlock=some b->D b
def xq.nil{α}(R:pB α)(k T B)(D:Nat->Prop)(W):xq R k T B D W ij [] []:=
 ⟨World.ownsRow_nil _ _ _ _,rfl,rfl,by simp,fun i x cs h=>by simp at h,fun b e=>by cases e⟩
def ue{W:World}{B l k k' n n' b T d v f xs h}(h1:W.ownsRow B T k v n xs)(h2:W.ownsRow l d k' f n' h)(m:T≠d)(e:v.ownBlock=some b):f.ownBlock≠some b:=by
 intro a
 obtain ⟨rfl,_⟩|⟨g,cap,p,rfl,_,o,_⟩:=h1.2
 .cases e
 .obtain ⟨rfl,_⟩|⟨q,i,j,rfl,_,c,_⟩:=h2.2
  .cases a
  .cases e;cases a
   rw[o]at c;cases c;exact m rfl
def NZ{W B k n b T v xs ks}(h1:W.ownsRow B T k v n xs)(h2:oC W b ks):v.ownBlock≠some b:=by
 intro c;obtain⟨f,a,h3,_⟩:=h2
 obtain ⟨rfl,_⟩|⟨g,cap,e,rfl,_,d,_⟩:=h1.2
 .cases c
 .cases c
  rw[d]at h3;cases h3
def my.ne{B}{D:Nat->Prop}{W c p m l seen l0 y css q a cap b}(h:my B D W c p m l seen l0 y css q a cap b):q.v.ownBlock≠some a/\b≠a/\q.v.ownBlock≠some b:=
 ⟨ue h.row h.coat.row (by decide) rfl,fun e=>NZ h.row h.map (by rw[e];rfl),NZ h.coat.row h.map⟩
def my.flat{B}{D:Nat->Prop}{W c p m l seen l0 y css q a cap b}(h:my B D W c p m l seen l0 y css q a cap b):css.flatten.length=l0.length*22:=by
 rw[lK css h.k,h.ecss]
def Au{W:World}{B k n b cap T a cs}(h:W.ownsRow B T k (.slice (J b) n cap) n (a++cs))(j)(q:j<cs.length)(u):(W.setCell ⟨b,a.length+j,none⟩ u).ownsRow B T k (.slice (J b) n cap) n (a++cs.set j u):=by
 obtain⟨h1,h2⟩:=h;refine⟨by rw[<- h1];simp,VS ?_⟩
 obtain ⟨e,_⟩|⟨g,c,p,e,d,f,i,l,m,o⟩:=h2
 .cases e
 .cases e
  refine⟨b,cap,_,rfl,d,gG f (a.length+j) u,i,l,by simpa using m,?_⟩;rw[Array.toList_setIfInBounds,List.take_set,o,fO,aj (by omega),dR]
def my.store{B}{D:Nat->Prop}{W c p m l seen l0 y css q o cap r}(h:my B D W c p m l seen l0 y css q o cap r){off u s2}(g:off<22)(j:(gX y.s q.a q.n q.c).set off u=gX s2 q.a q.n q.c)(hgl:s2.i7.size<=1000000):my B D (W.setCell ⟨o,l0.length*22+off,none⟩ u) c p m (l0++[⟨s2,y.zs⟩]) seen l0 ⟨s2,y.zs⟩ css q o cap r:=by
 obtain⟨t,v,w⟩:=h.ne;have f:=Au h.row off g u;rw[h.flat,j]at f
 exact⟨rfl,h.ep,h.ecss,h.k,f,h.coat.keep (fun b d=>iS (fun e=>t (by rw[d,e]))) h.coat.inD,h.qn,fun i x cs h1 h2=>iD.kept (h.rep i x cs h1 h2) (fun b d=>iS (fun e=>d.2.2 (by rw[e];exact h.dbb))) (fun b d=>⟨d.1,by simpa using d.2.1,d.2.2⟩),
  h.dbb,hgl,h.em,h.map.block (iS v),h.dbm,h.bmB⟩
def my.film{B}{D:Nat->Prop}{W W' c p m l seen l0 y css q r cap t}(h:my B D W c p m l seen l0 y css q r cap t){u g2 a}(o:W'.ownsRow B 67 3 (.slice (J g2) (q.n+1) a) (q.n+1) (y.zs.map (Value.int .i64)++u.map (Value.int .i64)))(j:nI W W' q.v g2):
 my B (fun b=>D b\/b=g2) (W'.setCell ⟨r,l0.length*22+21,none⟩ (.slice (J g2) (q.n+1) a)) (c+1) p m (l0++[⟨y.s,y.zs++u⟩]) seen l0 ⟨y.s,y.zs++u⟩ css ⟨some ⟨g2,0,none⟩,q.n+1,a⟩ r cap t:=by
 obtain⟨C,E,F⟩:=h.ne;have w:=h.bbB;have f:=me h.row (W':=W') (fun b d=>by cases d;exact j.kept r w.2 C)
 have z:g2≠r:=by
  have A:=ue f o (by decide) (b:=r) rfl
  exact fun e=>A (by rw[e];rfl)
 have g:=Au f 21 (by show 21<22;omega) (.slice (J g2) (q.n+1) a);rw[h.flat]at g
 refine⟨rfl,h.ep,h.ecss,h.k,g,⟨rE (by rw[aT];exact o) (fun e=>by cases e;exact z rfl) _ _,(fun b e=>by cases e;exact VS rfl),fun e=>by have:q.n+1=0:=e;omega⟩,by have:=h.qn;show q.n+1<=c+1;omega,fun i x cs h1 h2=>iD.kept (h.rep i x cs h1 h2) (fun b d=>?_) (fun b d=>⟨d.1,?_,?_⟩),
  VR h.dbb,h.i7,h.em,h.map.block ((iS E).trans (j.kept t h.map.lt F)),VR h.dbm,h.bmB⟩
 .exact(iS (fun e=>d.2.2 (by rw[e];exact h.dbb))).trans (j.kept b d.2.1 (fun e=>d.2.2 (h.coat.inD b e)))
 .simpa using ab d.2.1 j.size
 .rintro(e|e)
  .exact d.2.2 e
  .obtain e2|e2:=j.hat
   .exact d.2.2 (h.coat.inD b (by rw[e];exact e2))
   .have:=d.2.1;omega
def nG.own{at_ B}{D:Nat->Prop}{W c p m l seen}(h:nG at_ B D W c p m l seen)(hat:at_<=7)(t:c<=1000000):∃css,xq jE 22 70 B D W p l css:=by
 obtain ⟨_,rfl,rfl⟩|⟨e,l0,y,css,q,r,cap,v,h⟩|⟨h,_⟩:=h.2
 .exact⟨[],xq.nil _ _ _ _ _ _⟩
 .obtain⟨u,w,z⟩:=h.ne
  have o:=h.ecss;refine⟨css++[gX y.s q.a q.n q.c],?_⟩;rw[h.ep,h.el];refine⟨by show World.ownsRow _ _ _ _ (.slice (J r) (l0.length+1) cap) _ _;simpa using h.row,by simp[o],by simp,fun cs d=>?_,fun i x cs g d=>?_,fun b e=>by cases e;exact h.dbb⟩
  .obtain d|d:=bj.1 d
   .exact h.k cs d
   .simp only[aK]at d;subst d;rfl
  .by_cases hi:i<l0.length
   .rw[aF hi]at g
    rw[aF (by omega)]at d;exact iD.kept (h.rep i x cs g d) (gN.refl _ _) (fun b f=>⟨f.1,f.2.1,fun e=>by cases e;exact f.2.2 h.dbb⟩)
   .have j:i=l0.length:=by
     have:=(TG.1 g).1;simp at this;omega
    subst j;simp only[bT,bA]at g;rw[<- o]at d;simp only[bT,bA]at d;subst g;subst d;exact h.last (fun b f=>⟨(gT h.coat.row f).1,(gT h.coat.row f).2,fun e=>by cases e;exact u f⟩) t
 .omega
def qL.ne{B}{D:Nat->Prop}{W c p l l0 y css q a cap}(h:qL B D W c p l l0 y css q a cap):q.v.ownBlock≠some a:=ue h.row h.coat.row (by decide) rfl
def nH.own{at_ B}{D:Nat->Prop}{W c p l}(h:nH at_ B D W c p l)(hat:at_<=8)(r:c<=1000000):∃css,xq oB 2 75 B D W p l css:=by
 obtain ⟨_,rfl,rfl⟩|⟨e,l0,y,css,q,o,cap,h⟩|⟨h,_⟩:=h.2
 .exact⟨[],xq.nil _ _ _ _ _ _⟩
 .have s:=h.ne
  have m:=h.ecss;refine⟨css++[[.string y.nm,.slice q.a q.n q.c]],?_⟩;rw[h.ep,h.el];refine⟨by show World.ownsRow _ _ _ _ (.slice (J o) (l0.length+1) cap) _ _;simpa using h.row,by simp[m],by simp,fun cs d=>?_,fun i x cs g d=>?_,fun b e=>by cases e;exact h.dbb⟩
  .obtain d|d:=bj.1 d
   .exact h.k cs d
   .simp only[aK]at d;subst d;rfl
  .by_cases hi:i<l0.length
   .rw[aF hi]at g
    rw[aF (by omega)]at d;exact ky.kept (h.rep i x cs g d) (gN.refl _ _) (fun b f=>⟨f.1,f.2.1,fun e=>by cases e;exact f.2.2 h.dbb⟩)
   .have j:i=l0.length:=by
     have:=(TG.1 g).1;simp at this;omega
    subst j;simp only[bT,bA]at g;rw[<- m]at d;simp only[bT,bA]at d;subst g;subst d;exact h.last (fun b f=>⟨(gT h.coat.row f).1,(gT h.coat.row f).2,fun e=>by cases e;exact s f⟩) r
 .omega
def qL.flat{B}{D:Nat->Prop}{W c p l l0 y css q a cap}(h:qL B D W c p l l0 y css q a cap):css.flatten.length=l0.length*2:=by
 rw[lK css h.k,h.ecss]
def qL.film{B}{D:Nat->Prop}{W W' c p l l0 y css q o cap}(h:qL B D W c p l l0 y css q o cap){r g2 a}(m:W'.ownsRow B 72 3 (.slice (J g2) (q.n+1) a) (q.n+1) (y.zs.map (Value.int .i64)++r.map (Value.int .i64)))(j:nI W W' q.v g2):
 qL B (fun b=>D b\/b=g2) (W'.setCell ⟨o,l0.length*2+1,none⟩ (.slice (J g2) (q.n+1) a)) (c+1) p (l0++[⟨y.nm,y.zs++r⟩]) l0 ⟨y.nm,y.zs++r⟩ css ⟨some ⟨g2,0,none⟩,q.n+1,a⟩ o cap:=by
 have w:=h.ne;have s:=h.bbB;have f:=me h.row (W':=W') (fun b d=>by cases d;exact j.kept o s.2 w)
 have t:g2≠o:=by
  have u:=ue f m (by decide) (b:=o) rfl
  exact fun e=>u (by rw[e];rfl)
 have g:=Au f 1 (by show 1<2;omega) (.slice (J g2) (q.n+1) a);rw[h.flat]at g;refine⟨rfl,h.ep,h.ecss,h.k,g,⟨rE (by rw[aT];exact m) (fun e=>by cases e;exact t rfl) _ _,(fun b e=>by cases e;exact VS rfl),fun e=>by have:q.n+1=0:=e;omega⟩,by have:=h.qn;show q.n+1<=c+1;omega,fun i x cs h1 h2=>ky.kept (h.rep i x cs h1 h2) (fun b d=>?_) (fun b d=>⟨d.1,?_,?_⟩),VR h.dbb,h.nm⟩
 .exact(iS (fun e=>d.2.2 (by rw[e];exact h.dbb))).trans (j.kept b d.2.1 (fun e=>d.2.2 (h.coat.inD b e)))
 .simpa using ab d.2.1 j.size
 .rintro(e|e)
  .exact d.2.2 e
  .obtain e2|e2:=j.hat
   .exact d.2.2 (h.coat.inD b (by rw[e];exact e2))
   .have:=d.2.1;omega
def xq.snoc{α R k}(ok:kR k R){T B}{D:Nat->Prop}{W W' p l css}(h:xq R k T B D W p l css){g2}(c:nI W W' p.v g2):∀(i:Nat)(x:α)(cs:List Value),l[i]? =some x->css[i]? =some cs->R (fun b=>B<=b/\b<W.heap.size/\b≠g2) W' x cs:=
 fun i x cs h1 h2=>ok.kept (h.rep i x cs h1 h2) (fun b a=>c.kept b a.2.1 a.2.2) (fun b a=>⟨a.1,a.2.1,fun e=>by
  obtain e2|e2:=c.hat
  .exact a.2.2 (by rw[e2,e])
  .have:=a.2.1;omega⟩)
def Bp{B g z c}{D:Nat->Prop}{r}{y W W' q:World}{f v s k m css i g2 cap t H}(P:H=some ⟨{r.x with l:=r.x.l++[lJ i]},7,[]⟩)(a:Below y y W)(hA:jm W g r.x z f v s k m)(hL:AX B g c D r W f v s k m)(hO:xq jE 22 70 B D W s r.x.l css)(hrow:W'.ownsRow B 70 22 (.slice (J g2) (s.n+1) cap) (s.n+1) (css.flatten++gX (lJ i).s none 0 0))(hgr:nI W W' s.v g2)(hg2:B<=g2)(hat:r.at_<=7)(h1:c<=100001)(hg0:B<=y.heap.size)(hA2:jm q g r.x z f v ⟨some ⟨g2,0,none⟩,s.n+1,cap⟩ k (.map (some t)))(hm:oC q t [])(hbm:W'.heap.size<=t)(hk2:∀b,b≠g->b<W'.heap.size->q.heap[b]? =W'.heap[b]?)(hbe:Below g W' q):
 iE B g z c D H y (.returned (.tuple #[])) q:=by
 have M:=hL.gB;have hlt:=TK hA
 have L:∀b,(b=g\/b=g2\/b=t)->D b\/y.heap.size<=b:=by
  rintro b (e|e|e)
  .exact VR (by rw[e];exact hL.dg)
  .obtain e2|e2:=hgr.hat
   .exact VR (by rw[e];exact hO.inD g2 e2)
   .exact VS (by have:=a.size;omega)
  .exact VS (by have:=a.size;have:=hgr.size;omega)
 have S:=hbe.size;have R:=hgr.size;have Q:=a.size
 have o:∀b,B<=b->b<W.heap.size->b≠g2->Fz B (fun b=>b=g\/b=g2\/b=t) q b:=fun b h2 h3 K=>⟨h2,by omega,by
  rintro(e|e|e)
  .omega
  .exact K e
  .omega⟩
 have h:∀b,B<=b->b<W.heap.size->s.v.ownBlock≠some b->q.heap[b]? =W.heap[b]? :=fun b h2 h3 K=>(hk2 b (by omega) (by omega)).trans (hgr.kept b h3 K)
 have E:gN (Fz B D W) W q:=fun b a=>h b a.1 a.2.1 (fun e=>a.2.2 (hO.inD b e))
 have F:∀b,Fz B D W b->Fz B (fun b=>b=g\/b=g2\/b=t) q b:=fun b a=>o b a.1 a.2.1 (fun e=>by
  obtain e2|e2:=hgr.hat
  .exact a.2.2 (hO.inD b (by rw[e];exact e2))
  .have:=a.2.1;omega)
 have w:=me hrow (W':=q) (fun b e=>by cases e;exact hk2 g2 (by omega) hgr.lt);refine⟨(a.mono (by omega)).trans ((hgr.below (by omega) (fun b e=>by have:=(gT hO.row e).1;omega)).trans hbe),fun b A C=>?_,VR ⟨_,P,rfl,fun b=>b=g\/b=g2\/b=t,L,⟨f,v,⟨some ⟨g2,0,none⟩,s.n+1,cap⟩,k,.map (some t),hA2,M,by omega,VR rfl,fun b a=>?_,(by dsimp only;omega),(by dsimp only;omega),hL.nm,?_,?_,?_,?_⟩⟩⟩
 .have p:b≠g:=fun e=>C (by rw[e];exact hL.dg)
  have N:b<W.heap.size:=ab A a.size;exact(hk2 b p (by omega)).trans ((hgr.kept b N (fun e=>C (hO.inD b e))).trans (a.block b A))
 .obtain e|e|e:=a
  .exact⟨VR e,by rw[e];omega⟩
  .exact⟨VS (by omega),by have:=hgr.lt;omega⟩
  .exact⟨VS (by omega),by rw[e];exact hm.lt⟩
 .exact hL.fs.close (by dsimp only;omega) (by omega) E F (fun e b u=>by
   have d:=gT (hL.fs.own (by omega)).row u;have p:=ue (hL.fs.own (by omega)).row hO.row (by decide) u
   exact⟨h b d.1 d.2 p,o b d.1 d.2 (fun e=>by
    obtain e2|e2:=hgr.hat
    .exact p (by rw[e2,e])
    .omega)⟩)
 .exact hL.ws.close (by dsimp only;omega) (by omega) E F (fun e b u=>by
   have d:=gT (hL.ws.own (by omega)).row u;have p:=ue (hL.ws.own (by omega)).row hO.row (by decide) u
   exact⟨h b d.1 d.2 p,o b d.1 d.2 (fun e=>by
    obtain e2|e2:=hgr.hat
    .exact p (by rw[e2,e])
    .omega)⟩)
 .refine⟨by have:=hL.l.1;show s.n+1<=c+1;omega,VS (VR ⟨rfl,r.x.l,lJ i,css,ij,g2,cap,t,?_⟩)⟩
  refine⟨rfl,by rw[hO.n],hO.len,hO.k,by rw[<- hO.n];exact w,sT.nil _ _ _ _ _,aA _,fun j x cs h2 h3=>iD.kept (hO.snoc iD hgr j x cs h2 h3) (fun b a=>hk2 b (by omega) (by omega)) (fun b a=>o b a.1 a.2.1 a.2.2),VS (VR rfl),by show(0:Nat)<=_;omega,rfl,hm,VS (VS rfl),by omega⟩
 .exact hL.cf.wait (by omega) (by dsimp only;omega) (by omega)
def DI{B g p c}{D:Nat->Prop}{r}{o W W':World}{f v s k m css nm g2 cap A}(K:A=some ⟨{r.x with cf:=r.x.cf++[⟨nm,[]⟩]},8,[]⟩)(hnm:nm.size<=1000000)(a:Below o o W)(hA:jm W g r.x p f v s k m)(hL:AX B g c D r W f v s k m)(hO:xq oB 2 75 B D W k r.x.cf css)(hrow:W'.ownsRow B 75 2 (.slice (J g2) (k.n+1) cap) (k.n+1) (css.flatten++[.string nm,.slice none 0 0]))(hgr:nI W W' k.v g2)(hg2:B<=g2)(hat:r.at_<=8)(h1:c<=100001)(hg0:B<=o.heap.size):
 iE B g p c D A o (.returned (.tuple #[])) (W'.setCell ⟨g,8,none⟩ (.slice (J g2) (k.n+1) cap)):=by
 have z:=hL.gB;have hlt:=TK hA
 have u:k.v.ownBlock≠some g:=fun e=>by have:=(gT hO.row e).1;omega
 have E:jm W' g r.x p f v s k m:=(hgr.kept g hlt u).trans hA
 have F:∀b,(b=g\/b=g2)->D b\/o.heap.size<=b:=by
  rintro b (e|e)
  .exact VR (by rw[e];exact hL.dg)
  .obtain e2|e2:=hgr.hat
   .exact VR (by rw[e];exact hO.inD g2 e2)
   .exact VS (by have:=a.size;omega)
 obtain⟨q,t⟩:=NY z hO.inD hgr;have L:=hgr.size
 have i:∀b,B<=b->b<W.heap.size->k.v.ownBlock≠some b->W'.heap[b]? =W.heap[b]? /\Fz B (fun b=>b=g\/b=g2) W' b:=fun b h2 h3 C=>⟨hgr.kept b h3 C,h2,by omega,by
  rintro(e|e)
  .omega
  .obtain e2|e2:=hgr.hat
   .exact C (by rw[e2,e])
   .omega⟩
 refine⟨kZ ((a.mono (by omega)).trans (hgr.below (by omega) (fun b e=>by have:=(gT hO.row e).1;omega))) (aa _),fun b w y=>?_,VR ⟨_,K,rfl,fun b=>b=g\/b=g2,F,⟨f,v,s,⟨some ⟨g2,0,none⟩,k.n+1,cap⟩,m,?_,?_⟩⟩⟩
 .exact(iS (fun e=>y (by rw[e];exact hL.dg))).trans ((hgr.kept b (ab w a.size) (fun e=>y (hO.inD b e))).trans (a.block b w))
 .exact nJ E rfl
 .have key:AX B g (c+1) (fun b=>b=g\/b=g2) ⟨{r.x with cf:=r.x.cf++[⟨nm,[]⟩]},8,[]⟩ W' f v s ⟨some ⟨g2,0,none⟩,k.n+1,cap⟩ m:=by
   refine⟨z,by omega,VR rfl,fun b a=>?_,(by dsimp only;omega),(by dsimp only;omega),hL.nm,?_,?_,?_,?_⟩
   .obtain e|e:=a
    .exact⟨VR e,by rw[e];omega⟩
    .exact⟨VS (by omega),by have:=hgr.lt;omega⟩
   .exact hL.fs.close (by dsimp only;omega) (by omega) q t (fun e b d=>i b (gT (hL.fs.own (by omega)).row d).1 (gT (hL.fs.own (by omega)).row d).2 (ue (hL.fs.own (by omega)).row hO.row (by decide) d))
   .exact hL.ws.close (by dsimp only;omega) (by omega) q t (fun e b d=>i b (gT (hL.ws.own (by omega)).row d).1 (gT (hL.ws.own (by omega)).row d).2 (ue (hL.ws.own (by omega)).row hO.row (by decide) d))
   .refine hL.l.close (by show(7:Int) <8;decide) (by omega) (by omega) q t (fun e b h2 h3=>i b h2 h3 ?_)
    have H:k=ij:=by
     obtain ⟨_,h,_⟩|⟨h,_⟩|⟨h,_⟩:=hL.cf.2
     .exact h
     .omega
     .omega
    rw[H];intro e;cases e
   .refine⟨by have:=hL.cf.1;show k.n+1<=c+1;omega,VS (VR ⟨rfl,r.x.cf,⟨nm,[]⟩,css,ij,g2,cap,?_⟩)⟩
    exact⟨rfl,by rw[hO.n],hO.len,hO.k,by rw[<- hO.n];exact hrow,sT.nil _ _ _ _ _,aA _,fun j x cs h2 h3=>ky.kept (hO.snoc ky hgr j x cs h2 h3) (gN.refl _ _) (fun b a=>⟨a.1,by omega,by
     rintro(e|e)
     .have:=a.1;omega
     .exact a.2.2 e⟩),VS rfl,hnm⟩
  exact key.keep (fun b a _=>iS (by omega)) (by simp)
def my.mapSet{B}{D:Nat->Prop}{W W' c p m l seen d l0 y css q g cap f}(h:my B D W c p m l seen l0 y css q g cap f)(j:∀b,b<W.heap.size->b≠f->W'.heap[b]? =W.heap[b]?)(r:W.heap.size<=W'.heap.size)(o:oC W' f (d.map bs)):my B D W' c p m l d l0 y css q g cap f:=by
 obtain⟨u,s,t⟩:=h.ne;have n:=h.bbB
 exact⟨h.el,h.ep,h.ecss,h.k,me h.row (fun b a=>by cases a;exact j g n.2 (fun e=>s e.symm)),h.coat.keep (fun b a=>j b (gT h.coat.row a).2 (fun e=>t (by rw[a,e]))) h.coat.inD,h.qn,
  fun i x cs h1 h2=>iD.kept (h.rep i x cs h1 h2) (fun b a=>j b a.2.1 (fun e=>a.2.2 (by rw[e];exact h.dbm))) (fun b a=>⟨a.1,ab a.2.1 r,a.2.2⟩),h.dbb,h.i7,h.em,o,h.dbm,h.bmB⟩
def my.succ{B}{D:Nat->Prop}{W c p m l seen l0 y css q a cap b}(h:my B D W c p m l seen l0 y css q a cap b):my B D W (c+1) p m l seen l0 y css q a cap b:=
 ⟨h.el,h.ep,h.ecss,h.k,h.row,h.coat,by have:=h.qn;omega,h.rep,h.dbb,h.i7,h.em,h.map,h.dbm,h.bmB⟩
def xr{B g c}{D:Nat->Prop}{r d W f v s k m l0 y css q j cap o off u s2 w A}(K:A=some ⟨{r.x with l:=l0++[⟨s2,y.zs⟩]},7,r.seen++[w]⟩)(hat:r.at_=7)(hA:jm d g r.x 7 f v s k m)(hL:AX B g c D r d f v s k m)(hS:my B D d c s m r.x.l r.seen l0 y css q j cap o)(hk:∀b,b<d.heap.size->b≠o->W.heap[b]? =d.heap[b]?)(hbe:Below B d W)(hm:oC W o ((r.seen++[w]).map bs))(hoff:off<22)(hset:(gX y.s q.a q.n q.c).set off u=gX s2 q.a q.n q.c)(hgl:s2.i7.size<=1000000)(h1:c<=100001):
 iE B g 7 c D A d (.returned (.tuple #[])) (W.setCell ⟨j,l0.length*22+off,none⟩ u):=by
 have H:=hL.gB;have F:=hS.bbB;have L:=hS.bmB;have hlt:=TK hA;have C:=hbe.size;have E:=((hS.mapSet hk C hm).store hoff hset hgl).succ
 have z:∀b,b<d.heap.size-> ¬D b->(W.setCell ⟨j,l0.length*22+off,none⟩ u).heap[b]? =d.heap[b]? :=fun b h2 h3=>(iS (fun e=>h3 (by rw[e];exact hS.dbb))).trans (hk b h2 (fun e=>h3 (by rw[e];exact hS.dbm)))
 have p:gN (Fz B D d) d (W.setCell ⟨j,l0.length*22+off,none⟩ u):=fun b i=>z b i.2.1 i.2.2
 have t:∀b,Fz B D d b->Fz B D (W.setCell ⟨j,l0.length*22+off,none⟩ u) b:=fun b i=>⟨i.1,by simpa using ab i.2.1 C,i.2.2⟩
 refine⟨(kZ hbe F.1).mono (by omega),z,VR ⟨_,K,rfl,D,fun b h=>VR h,f,v,s,k,m,?_,H,by omega,hL.dg,fun b i=>⟨(hL.own b i).1,by simpa using ab (hL.own b i).2 C⟩,(by dsimp only;omega),(by dsimp only;omega),hL.nm,?_,?_,?_,?_⟩⟩
 .exact(iS (by omega)).trans ((hk g hlt (by omega)).trans hA)
 .exact hL.fs.close (by dsimp only;omega) (by omega) p t (fun e=>by omega)
 .exact hL.ws.close (by dsimp only;omega) (by omega) p t (fun e=>by omega)
 .exact⟨by have:=hL.l.1;omega,VS (VR ⟨rfl,l0,_,css,q,j,cap,o,E⟩)⟩
 .exact hL.cf.wait (by omega) (by show(7:Int) <8;decide) (by omega)
def ID{B g c}{D:Nat->Prop}{r}{j W W':World}{f v s k m l0 y css q i cap A g2 d F z}(H:z=some ⟨{r.x with l:=l0++[⟨y.s,y.zs++F⟩]},7,r.seen⟩)(hat:r.at_=7)(a:Below j j W)(hA:jm W g r.x 7 f v s k m)(hL:AX B g c D r W f v s k m)(hS:my B D W c s m r.x.l r.seen l0 y css q i cap A)(hrow:W'.ownsRow B 67 3 (.slice (J g2) (q.n+1) d) (q.n+1) (y.zs.map (Value.int .i64)++F.map (Value.int .i64)))(hgr:nI W W' q.v g2)(hg2:B<=g2)(hg0:B<=j.heap.size)(h1:c<=100001):
 iE B g 7 c D z j (.returned (.tuple #[])) (W'.setCell ⟨i,l0.length*22+21,none⟩ (.slice (J g2) (q.n+1) d)):=by
 have E:=hL.gB;have K:=hS.bbB;have hlt:=TK hA;have w:=hgr.size;have L:=a.size
 have o:q.v.ownBlock≠some g:=fun e=>by have:=(gT hS.coat.row e).1;omega
 have C:=hS.film hrow hgr
 have u:∀b,b<W.heap.size-> ¬D b->(W'.setCell ⟨i,l0.length*22+21,none⟩ (.slice (J g2) (q.n+1) d)).heap[b]? =W.heap[b]? :=fun b h2 h3=>(iS (fun e=>h3 (by rw[e];exact hS.dbb))).trans (hgr.kept b h2 (fun e=>h3 (hS.coat.inD b e)))
 have p:gN (Fz B D W) W (W'.setCell ⟨i,l0.length*22+21,none⟩ (.slice (J g2) (q.n+1) d)):=fun b a=>u b a.2.1 a.2.2
 have t:∀b,Fz B D W b->Fz B (fun b=>D b\/b=g2) (W'.setCell ⟨i,l0.length*22+21,none⟩ (.slice (J g2) (q.n+1) d)) b:=fun b a=>⟨a.1,by simpa using ab a.2.1 w,by
  rintro(e|e)
  .exact a.2.2 e
  .obtain e2|e2:=hgr.hat
   .exact a.2.2 (hS.coat.inD b (by rw[e];exact e2))
   .have:=a.2.1;omega⟩
 refine⟨(a.mono (by omega)).trans (kZ (hgr.below (g:=g) (by omega) (fun b e=>by have:=(gT hS.coat.row e).1;omega)) (by omega)),fun b h2 h3=>(u b (by omega) h3).trans (a.block b h2),VR ⟨_,H,rfl,fun b=>D b\/b=g2,fun b h=>?_,f,v,s,k,m,?_,E,by omega,VR hL.dg,fun b a=>?_,(by dsimp only;omega),(by dsimp only;omega),hL.nm,?_,?_,?_,?_⟩⟩
 .obtain h|h:=h
  .exact VR h
  .obtain e2|e2:=hgr.hat
   .exact VR (hS.coat.inD b (by rw[h];exact e2))
   .exact VS (by omega)
 .exact(iS (by omega)).trans ((hgr.kept g hlt o).trans hA)
 .obtain a|a:=a
  .exact⟨(hL.own b a).1,by simpa using ab (hL.own b a).2 w⟩
  .exact⟨VS (by omega),by have:=hgr.lt;simp;omega⟩
 .exact hL.fs.close (by dsimp only;omega) (by omega) p t (fun e=>by omega)
 .exact hL.ws.close (by dsimp only;omega) (by omega) p t (fun e=>by omega)
 .exact⟨by have:=hL.l.1;omega,VS (VR ⟨rfl,l0,_,css,_,i,cap,A,C⟩)⟩
 .exact hL.cf.wait (by omega) (by show(7:Int) <8;decide) (by omega)
def DJ{B g c}{D:Nat->Prop}{r}{p W W':World}{f v s k m l0 y css q i cap g2 d E z}(F:z=some ⟨{r.x with cf:=l0++[⟨y.nm,y.zs++E⟩]},8,r.seen⟩)(hat:r.at_=8)(a:Below p p W)(hA:jm W g r.x 8 f v s k m)(hL:AX B g c D r W f v s k m)(hS:qL B D W c k r.x.cf l0 y css q i cap)(hrow:W'.ownsRow B 72 3 (.slice (J g2) (q.n+1) d) (q.n+1) (y.zs.map (Value.int .i64)++E.map (Value.int .i64)))(hgr:nI W W' q.v g2)(hg2:B<=g2)(hg0:B<=p.heap.size)(h1:c<=100001):
 iE B g 8 c D z p (.returned (.tuple #[])) (W'.setCell ⟨i,l0.length*2+1,none⟩ (.slice (J g2) (q.n+1) d)):=by
 have C:=hL.gB;have H:=hS.bbB;have hlt:=TK hA;have w:=hgr.size;have K:=a.size
 have t:q.v.ownBlock≠some g:=fun e=>by have:=(gT hS.coat.row e).1;omega
 have A:=hS.film hrow hgr
 have u:∀b,b<W.heap.size-> ¬D b->(W'.setCell ⟨i,l0.length*2+1,none⟩ (.slice (J g2) (q.n+1) d)).heap[b]? =W.heap[b]? :=fun b h2 h3=>(iS (fun e=>h3 (by rw[e];exact hS.dbb))).trans (hgr.kept b h2 (fun e=>h3 (hS.coat.inD b e)))
 have j:gN (Fz B D W) W (W'.setCell ⟨i,l0.length*2+1,none⟩ (.slice (J g2) (q.n+1) d)):=fun b a=>u b a.2.1 a.2.2
 have o:∀b,Fz B D W b->Fz B (fun b=>D b\/b=g2) (W'.setCell ⟨i,l0.length*2+1,none⟩ (.slice (J g2) (q.n+1) d)) b:=fun b a=>⟨a.1,by simpa using ab a.2.1 w,by
  rintro(e|e)
  .exact a.2.2 e
  .obtain e2|e2:=hgr.hat
   .exact a.2.2 (hS.coat.inD b (by rw[e];exact e2))
   .have:=a.2.1;omega⟩
 refine⟨(a.mono (by omega)).trans (kZ (hgr.below (g:=g) (by omega) (fun b e=>by have:=(gT hS.coat.row e).1;omega)) (by omega)),fun b h2 h3=>(u b (by omega) h3).trans (a.block b h2),VR ⟨_,F,rfl,fun b=>D b\/b=g2,fun b h=>?_,f,v,s,k,m,?_,C,by omega,VR hL.dg,fun b a=>?_,(by dsimp only;omega),(by dsimp only;omega),hL.nm,?_,?_,?_,?_⟩⟩
 .obtain h|h:=h
  .exact VR h
  .obtain e2|e2:=hgr.hat
   .exact VR (hS.coat.inD b (by rw[h];exact e2))
   .exact VS (by omega)
 .exact(iS (by omega)).trans ((hgr.kept g hlt t).trans hA)
 .obtain a|a:=a
  .exact⟨(hL.own b a).1,by simpa using ab (hL.own b a).2 w⟩
  .exact⟨VS (by omega),by have:=hgr.lt;simp;omega⟩
 .exact hL.fs.close (by dsimp only;omega) (by omega) j o (fun e=>by omega)
 .exact hL.ws.close (by dsimp only;omega) (by omega) j o (fun e=>by omega)
 .exact hL.l.close (by show(7:Int) <8;decide) (by omega) (by omega) j o (fun e=>by omega)
 .exact⟨by have:=hL.cf.1;omega,VS (VR ⟨rfl,l0,_,css,_,i,cap,A⟩)⟩
def lF{ws e}(h:JL ws e):(∃v,ws=[v]/\e=.returned (.string (bs v)))\/(ws.length≠1/\e=iX):=by
 match ws,h with
 |[],h=>exact VS ⟨by simp,h⟩
 |[v],h=>exact VR ⟨v,rfl,h⟩
 |v::u::r,h=>exact VS ⟨by simp,h⟩
def oX{x k ws}(a:k<5\/k=7\/k=8)(h:ws.length≠1):jk x k ws=none:=by
 match ws,h with
 |[],_=>obtain a|rfl|rfl:=a
        .match k,a with
         |0,_=>rfl
         |1,_=>rfl
         |2,_=>rfl
         |3,_=>rfl
         |4,_=>rfl
         |k+5,a=>omega
        .rfl
        .rfl
 |[v],h=>simp at h
 |v::u::r,_=>obtain a|rfl|rfl:=a
             .match k,a with
              |0,_=>rfl
              |1,_=>rfl
              |2,_=>rfl
              |3,_=>rfl
              |4,_=>rfl
              |k+5,a=>omega
             .rfl
             .rfl
def xt(x v):jk x 1 [v]=if v=lQ then some x else(lp v 6).map fun n=>{x with i6:=n}:=rfl
def la{x k ws}(h:jk x k ws=none):((jk x k ws).map fun y=>(⟨y,(k:Int),[]⟩:jL))=none:=by rw[h];rfl
def map_some{x y k ws}(h:jk x k ws=some y):((jk x k ws).map fun y=>(⟨y,(k:Int),[]⟩:jL))=some ⟨y,(k:Int),[]⟩:=by rw[h];rfl
def jm.cell{W g x a f v s k m}(h:jm W g x a f v s k m)(j):W.cell? ⟨g,j,none⟩=(iw x f v s k++[.int .i64 a,m])[j]? /\W.frozen? ⟨g,j,none⟩=false:=by
 have:=gA h j;rw[bo]at this;exact⟨this,gD h j⟩
def jm.go{W W' g x a f v s k m}(h:jm W g x a f v s k m)(b:Below W W W'):jm W' g x a f v s k m:=(b.block g (TK h)).trans h
def AX.go{B g c}{D:Nat->Prop}{r W W' f v s k m}(h:AX B g c D r W f v s k m)(a:Below W W W'):AX B g c D r W' f v s k m:=h.keep (fun b _ d=>a.block b d) a.size
def FL{B g e c}{D:Nat->Prop}{r}{d W:World}{f v s k m}{n:Nat}{i}(t:i=some ⟨r.x,(n:Int),[]⟩)(j:Below d d W)(q:jm W g r.x e f v s k m)(a:AX B g c D r W f v s k m)(hat:r.at_<5)(u:n<5)(h1:c<=100001)(p:g<=d.heap.size):iE B g e c D i d (.returned (.tuple #[])) W:=
 ⟨j.mono p,fun b o _=>j.block b o,VR ⟨_,t,rfl,D,fun _ h=>VR h,f,v,s,k,m,q,a.gB,by omega,a.dg,a.own,by show(-1:Int)<=(n:Int);omega,by show(n:Int)<=9;omega,a.nm,
   a.fs.wait (by omega) (by show(n:Int) <5;omega) (by omega),a.ws.wait (by omega) (by show(n:Int) <6;omega) (by omega),a.l.wait (by omega) (by show(n:Int) <7;omega) (by omega),a.cf.wait (by omega) (by show(n:Int) <8;omega) (by omega)⟩⟩
def Tb(l):(bs l).size=l.length:=rfl
def LM{B g d cc}{D:Nat->Prop}{r W ws a n c}(h:vM B g d cc D r W)(hw:ua W a n c ws W)(z:∀s∈ws,s.length<=100000)(hat:r.at_<5)(L:cc<=100001)(P:B<=W.heap.size)(w:GW W):
 Calls prog 327 #[U g,Z a n c] W (iE B g d cc D ((jk r.x 0 ws).map fun y=>⟨y,((0:Nat):Int),[]⟩) W):=by
 obtain⟨f,v,s,k,m,q,i⟩:=h;have M:=i.gB;have j:=O q;have E:=O i;have N:=O w;have l:=O hat;have F:=O z;have H:=O hw;clear q i w hat z hw;go_enter func327,ntmps327;go_wp2_with fail;refine(nF ws a n c _ W H).mono ?_;rintro e Q ⟨u,rfl⟩
 obtain ⟨x,rfl,rfl⟩|⟨A,rfl⟩:=lF u
 .have C:=F x (by simp)
  obtain⟨c0,f0⟩:=j.cell 0;have K:=O C;clear C u;go_wp2_with fail;go_end0;exact qM (map_some rfl) (TH _ _) j E rfl ⟨rfl,rfl,rfl,rfl⟩ (by have:=K.out;show(bs x).size<=_;rw[Tb];omega) l (by omega) L (by omega)
 .have t:iE B g d cc D ((jk r.x 0 ws).map fun y=>(⟨y,((0:Nat):Int),[]⟩:jL)) W iX W:=iE.bad (la (oX (by omega) A)) (TH _ _) (by omega)
  have o:=O t;clear t;have b:=o.out;unfold iX at b⊢;have p:=O b;clear b o;go_wp2_with fail;exact⟨rfl,p⟩
def IE{B g j cc}{D:Nat->Prop}{r W ws a n c}(h:vM B g j cc D r W)(hw:ua W a n c ws W)(H:∀s∈ws,s.length<=100000)(hat:r.at_<5)(T:cc<=100001)(hB:B<=W.heap.size)(F:GW W):
 Calls prog 329 #[U g,Z a n c] W (iE B g j cc D ((jk r.x 2 ws).map fun y=>⟨y,((2:Nat):Int),[]⟩) W):=by
 obtain⟨f,v,s,k,m,E,u⟩:=h;have a0:=u.gB;have M:=O E;have N:=O u;have P:=O F;have A:=O hat;have Q:=O H;have S:=O hw;clear E u F hat H hw;go_enter func329,ntmps329;go_wp2_with fail;refine(nF ws a n c _ W S).mono ?_;rintro e w1 ⟨i,rfl⟩
 obtain ⟨x,rfl,rfl⟩|⟨K,rfl⟩:=lF i
 .have X:=Q x (by simp)
  clear i;go_wp2_with fail;refine(mL x 6 W X (by omega) P).mono ?_;rintro e w2 ⟨i,d⟩
  cases hv:lp x 6 with
  |none=>
   unfold kX at i;rw[hv]at i;subst i;have p:iE B g j cc D ((jk r.x 2 [x]).map fun y=>(⟨y,((2:Nat):Int),[]⟩:jL)) W iX w2:=iE.bad (la (by show(lp x 6).map _=none;rw[hv];rfl)) d (by omega);have b:=p;clear p hv d;unfold iX at b⊢;have l:=O b;clear b;go_wp2_with fail;exact⟨rfl,l⟩
  |some z=>
   unfold kX at i;rw[hv]at i;subst i;have o:=M.go d;have t:=N.go d;have L:((jk r.x 2 [x]).map fun y=>(⟨y,((2:Nat):Int),[]⟩:jL))=some ⟨{r.x with p9:=z},((2:Nat):Int),[]⟩:=map_some (by show(lp x 6).map _=_;rw[hv];rfl);obtain⟨c0,f0⟩:=o.cell 2;have w:=O o;have q:=O t;have b:=O d;have R:=O L;clear o t d L hv;go_wp2_with fail;go_end0;exact qM R b w q rfl ⟨rfl,rfl,rfl,rfl⟩ q.nm A (by omega) T (by omega)
 .have p:iE B g j cc D ((jk r.x 2 ws).map fun y=>(⟨y,((2:Nat):Int),[]⟩:jL)) W iX W:=iE.bad (la (oX (by omega) K)) (TH _ _) (by omega)
  have C:=O p;clear p;have b:=C.out;unfold iX at b⊢;have l:=O b;clear b C;go_wp2_with fail;exact⟨rfl,l⟩
def LN{B g j cc}{D:Nat->Prop}{r W ws a n c}(h:vM B g j cc D r W)(hw:ua W a n c ws W)(H:∀s∈ws,s.length<=100000)(hat:r.at_<5)(T:cc<=100001)(hB:B<=W.heap.size)(F:GW W):
 Calls prog 330 #[U g,Z a n c] W (iE B g j cc D ((jk r.x 3 ws).map fun y=>⟨y,((3:Nat):Int),[]⟩) W):=by
 obtain⟨f,v,s,k,m,E,u⟩:=h;have a0:=u.gB;have M:=O E;have N:=O u;have P:=O F;have A:=O hat;have Q:=O H;have S:=O hw;clear E u F hat H hw;go_enter func330,ntmps330;go_wp2_with fail;refine(nF ws a n c _ W S).mono ?_;rintro e w1 ⟨i,rfl⟩
 obtain ⟨x,rfl,rfl⟩|⟨K,rfl⟩:=lF i
 .have X:=Q x (by simp)
  clear i;go_wp2_with fail;refine(mL x 0 W X (by omega) P).mono ?_;rintro e w2 ⟨i,d⟩
  cases hv:lp x 0 with
  |none=>
   unfold kX at i;rw[hv]at i;subst i;have p:iE B g j cc D ((jk r.x 3 [x]).map fun y=>(⟨y,((3:Nat):Int),[]⟩:jL)) W iX w2:=iE.bad (la (by show(lp x 0).map _=none;rw[hv];rfl)) d (by omega);have b:=p;clear p hv d;unfold iX at b⊢;have l:=O b;clear b;go_wp2_with fail;exact⟨rfl,l⟩
  |some z=>
   unfold kX at i;rw[hv]at i;subst i;have o:=M.go d;have t:=N.go d;have L:((jk r.x 3 [x]).map fun y=>(⟨y,((3:Nat):Int),[]⟩:jL))=some ⟨{r.x with stop:=z},((3:Nat):Int),[]⟩:=map_some (by show(lp x 0).map _=_;rw[hv];rfl);obtain⟨c0,f0⟩:=o.cell 3;have w:=O o;have q:=O t;have b:=O d;have R:=O L;clear o t d L hv;go_wp2_with fail;go_end0;exact qM R b w q rfl ⟨rfl,rfl,rfl,rfl⟩ q.nm A (by omega) T (by omega)
 .have p:iE B g j cc D ((jk r.x 3 ws).map fun y=>(⟨y,((3:Nat):Int),[]⟩:jL)) W iX W:=iE.bad (la (oX (by omega) K)) (TH _ _) (by omega)
  have C:=O p;clear p;have b:=C.out;unfold iX at b⊢;have l:=O b;clear b C;go_wp2_with fail;exact⟨rfl,l⟩
def DK{B g j cc}{D:Nat->Prop}{r W ws a n c}(h:vM B g j cc D r W)(hw:ua W a n c ws W)(H:∀s∈ws,s.length<=100000)(hat:r.at_<5)(T:cc<=100001)(hB:B<=W.heap.size)(F:GW W):
 Calls prog 331 #[U g,Z a n c] W (iE B g j cc D ((jk r.x 4 ws).map fun y=>⟨y,((4:Nat):Int),[]⟩) W):=by
 obtain⟨f,v,s,k,m,E,u⟩:=h;have a0:=u.gB;have M:=O E;have N:=O u;have P:=O F;have A:=O hat;have Q:=O H;have S:=O hw;clear E u F hat H hw;go_enter func331,ntmps331;go_wp2_with fail;refine(nF ws a n c _ W S).mono ?_;rintro e w1 ⟨i,rfl⟩
 obtain ⟨x,rfl,rfl⟩|⟨K,rfl⟩:=lF i
 .have X:=Q x (by simp)
  clear i;go_wp2_with fail;refine(mL x 0 W X (by omega) P).mono ?_;rintro e w2 ⟨i,d⟩
  cases hv:lp x 0 with
  |none=>
   unfold kX at i;rw[hv]at i;subst i;have p:iE B g j cc D ((jk r.x 4 [x]).map fun y=>(⟨y,((4:Nat):Int),[]⟩:jL)) W iX w2:=iE.bad (la (by show(lp x 0).map _=none;rw[hv];rfl)) d (by omega);have b:=p;clear p hv d;unfold iX at b⊢;have l:=O b;clear b;go_wp2_with fail;exact⟨rfl,l⟩
  |some z=>
   unfold kX at i;rw[hv]at i;subst i;have o:=M.go d;have t:=N.go d;have L:((jk r.x 4 [x]).map fun y=>(⟨y,((4:Nat):Int),[]⟩:jL))=some ⟨{r.x with prim:=z},((4:Nat):Int),[]⟩:=map_some (by show(lp x 0).map _=_;rw[hv];rfl);obtain⟨c0,f0⟩:=o.cell 4;have w:=O o;have q:=O t;have b:=O d;have R:=O L;clear o t d L hv;go_wp2_with fail;go_end0;exact qM R b w q rfl ⟨rfl,rfl,rfl,rfl⟩ q.nm A (by omega) T (by omega)
 .have p:iE B g j cc D ((jk r.x 4 ws).map fun y=>(⟨y,((4:Nat):Int),[]⟩:jL)) W iX W:=iE.bad (la (oX (by omega) K)) (TH _ _) (by omega)
  have C:=O p;clear p;have b:=C.out;unfold iX at b⊢;have l:=O b;clear b C;go_wp2_with fail;exact⟨rfl,l⟩
def FM{B g j cc}{D:Nat->Prop}{r W ws a n c}(h:vM B g j cc D r W)(hw:ua W a n c ws W)(N:∀s∈ws,s.length<=100000)(hat:r.at_<5)(L:cc<=100001)(hB:B<=W.heap.size)(M:GW W):
 Calls prog 328 #[U g,Z a n c] W (iE B g j cc D ((jk r.x 1 ws).map fun y=>⟨y,((1:Nat):Int),[]⟩) W):=by
 obtain⟨f,v,s,k,m,K,w⟩:=h;have a0:=w.gB;have A:=O K;have E:=O w;have T:=O M;have t:=O hat;have X:=O N;have Hw:=O hw;clear K w M hat N hw;go_enter func328,ntmps328;go_wp2_with fail;refine(nF ws a n c _ W Hw).mono ?_;rintro e w1 ⟨i,rfl⟩
 obtain ⟨x,rfl,rfl⟩|⟨Q,rfl⟩:=lF i
 .have hx:=X x (by simp)
  clear i;by_cases hi:x=lQ
  .subst hi
   have R:iE B g j cc D ((jk r.x 1 [lQ]).map fun y=>(⟨y,((1:Nat):Int),[]⟩:jL)) W (.returned (.tuple #[])) W:=FL (map_some (y:=r.x) (by rw[xt,aq rfl])) (TH _ _) A E t (by omega) L (by omega);have Hp:=O R;clear R
   have P:(bs lQ=={data:=#[105,110,102,105,110,105,116,121]})=true:=by decide
   go_wp2_with fail;go_end0;exact Hp
  .have P:(x==[105,110,102,105,110,105,116,121])=false:=by rw[ak];exact hi
   have H:=O hi;clear hi;go_wp2_with fail;refine(mL x 6 W hx (by omega) T).mono ?_;rintro e w2 ⟨i,d⟩
   cases hv:lp x 6 with
   |none=>
    unfold kX at i;rw[hv]at i;subst i;have p:iE B g j cc D ((jk r.x 1 [x]).map fun y=>(⟨y,((1:Nat):Int),[]⟩:jL)) W iX w2:=iE.bad (la (by rw[xt,aj H.out,hv];rfl)) d (by omega);have b:=p;clear p hv d;unfold iX at b⊢;have l:=O b;clear b;go_wp2_with fail;exact⟨rfl,l⟩
   |some z=>
    unfold kX at i;rw[hv]at i;subst i;have o:=A.go d;have u:=E.go d;have S:((jk r.x 1 [x]).map fun y=>(⟨y,((1:Nat):Int),[]⟩:jL))=some ⟨{r.x with i6:=z},((1:Nat):Int),[]⟩:=map_some (by rw[xt,aj H.out,hv];rfl);obtain⟨c0,f0⟩:=o.cell 1;have C:=O o;have q:=O u;have b:=O d;have Hr:=O S;clear o u d S hv;go_wp2_with fail;go_end0;exact qM Hr b C q rfl ⟨rfl,rfl,rfl,rfl⟩ q.nm t (by omega) L (by omega)
 .have p:iE B g j cc D ((jk r.x 1 ws).map fun y=>(⟨y,((1:Nat):Int),[]⟩:jL)) W iX W:=iE.bad (la (oX (by omega) Q)) (TH _ _) (by omega)
  have F:=O p;clear p;have b:=F.out;unfold iX at b⊢;have l:=O b;clear b F;go_wp2_with fail;exact⟨rfl,l⟩
def N0{B g d cc}{D:Nat->Prop}{r W ws a n c}(h:vM B g d cc D r W)(hw:ua W a n c ws W)(hat:r.at_<=8)(w:cc<=100001)(t:B<=W.heap.size):
 Calls prog 336 #[U g,Z a n c] W (iE B g d cc D ((jk r.x 9 ws).map fun y=>⟨y,((9:Nat):Int),[]⟩) W):=by
 have b:=hw.1
 have A:g<B:=by obtain⟨f,v,s,k,m,E,u⟩:=h;exact u.gB
 have H:=O h;have C:=O hw;clear h hw;go_enter func336,ntmps336
 match ws,b with
 |[],b=>
  obtain rfl:n=0:=b.symm;have p:iE B g d cc D ((jk r.x 9 []).map fun y=>(⟨y,((9:Nat):Int),[]⟩:jL)) W (.returned (.tuple #[])) W:=LL (map_some (k:=9) rfl) (TH _ _) H hat w t;have q:=O p;clear p b;go_wp2_with fail;refine(kW W).mono ?_;rintro e z ⟨rfl,rfl⟩;go_wp2_with fail;go_end0;exact q
 |v::r',b=>
  have h0:((n:Int)==0)=false:=by rw[ak];simp at b;omega
  have o:iE B g d cc D ((jk r.x 9 (v::r')).map fun y=>(⟨y,((9:Nat):Int),[]⟩:jL)) W iX W:=iE.bad (la (k:=9) rfl) (TH _ _) (by omega);have j:=O o;clear o b;go_wp2_with fail;refine(lm W).mono ?_;rintro e z ⟨rfl,rfl⟩;have i:=j.out;unfold iX at i⊢;have l:=O i;clear i j;go_wp2_with fail;exact⟨rfl,l⟩
def nR{o:Oper}{a}{K:Act->World->Prop}{Q:Exit->Act->World->Prop}{T e z k b}(f:prog.underlying e=some (.slice T))(q:(prog.info? T).map (fun i=>(i.zero,i.size,i.bytes))=some (some z,k,b))(y:z.cells.size=k)(r:0<k)(g:b<=10000)(s x)(w:o.op=.call {callee:=.builtin .append,args:=#[s,x],argTypes:=#[e,e]})(base)(W:World)(v:Value)(n B0:Nat)(xs cs:List Value)(hs:a.eval s=v)(hrow:W.ownsRow base T k v n xs)(hnew:W.heap[B0]? =some (.cells cs.toArray T (0,0)))(hx:a.eval x=.slice (J B0) 1 1)(hcl:cs.length=k)(h1:∀u∈cs,u.oneCell'=true)(hlen:n<=1000000)(hbase:base<=W.heap.size)(h:∀g2 cap w',w'.ownsRow base T k (.slice (J g2) (n+1) cap) (n+1) (xs++cs)->nI W w' v g2->base<=g2->K (a.put o.dst (.slice (J g2) (n+1) cap)) w'):
 o.wp prog a W K Q:=by
 obtain⟨i,j,l,m,p⟩:=sd q
 refine wp_append_lies _ s x e w base T i z k b f j l m p y r v n xs hs hrow (J B0) 1 1 cs hx (by omega) (World.news_of_block (cs:=cs.toArray) (t:=T) (fr:=(0,0)) hnew) h1
  (by omega) (by unfold maxLen;omega) (af (cB (show n+1<=1000001 by omega) g) (by omega)) hbase _ rfl ?_
 intro g2 cap w' c d hat hlt;exact h g2 cap w' c (LJ (TH _ _) d hat (aa _) hlt) (c.lt g2 rfl).1
def DL{ops c o a}{Q:Exit->Act->World->Prop}{T d z}{k b:Nat}(e:prog.underlying d=some (.slice T))(m:(prog.info? T).map (fun i=>(i.zero,i.size,i.bytes))=some (some z,k,b))(r:z.cells.size=k)(p:0<k)(f:b<=10000)(g:o.guard=none)(s x:Operand)(q:o.op=.call {callee:=.builtin .append,args:=#[s,x],argTypes:=#[d,d]})(base:Nat)(W:World)(v:Value)(n B0:Nat)(xs cs:List Value)(hs:a.eval s=v)(hrow:W.ownsRow base T k v n xs)(hnew:W.heap[B0]? =some (.cells cs.toArray T (0,0)))(hx:a.eval x=.slice (J B0) 1 1)(hcl:cs.length=k)(h1:∀u∈cs,u.oneCell'=true)(hlen:n<=1000000)(hbase:base<=W.heap.size)(h:∀g2 cap w',w'.ownsRow base T k (.slice (J g2) (n+1) cap) (n+1) (xs++cs)->nI W w' v g2->base<=g2->wpList prog ops Q c (a.put o.dst (.slice (J g2) (n+1) cap)) w'):
 wpList prog ops Q (o::c) a W:=
 eT g fun _ l=>nR e m r p f s x q base W v n B0 xs cs hs hrow hnew hx hcl h1 hlen hbase (fun g2 cap w' h2 h3 j=>l _ _ (h g2 cap w' h2 h3 j))
def sV{w w' a n c ws}(h:ua w a n c ws w)(b:Below w w w'):ua w' a n c ws w':=h.kept (fun k d=>b.block k d) b.size
def ym(x ws):jk x 5 ws=(kF ws [6,6]).map fun a=>{x with fs:=x.fs++a}:=by
 match ws with
 |[]=>rfl
 |[_]=>rfl
 |_::_::_=>rfl
def Av(x ws):jk x 6 ws=(kF ws [3,0]).map fun a=>{x with ws:=x.ws++a}:=by
 match ws with
 |[]=>rfl
 |[_]=>rfl
 |_::_::_=>rfl
def N1{w:World}(d e:Nat):SL (w.alloc (.cells #[.int .i64 (d:Int),.int .i64 (e:Int)] 3)).heap.size (w.alloc (.cells #[.int .i64 (d:Int),.int .i64 (e:Int)] 3)) (J (w.heap.size)) 2 2 ([d,e].map fun(x:Nat)=>(x:Int)):=by
 refine⟨rfl,aa _,fun _=>⟨w.heap.size,0,rfl,by simp,fun j a=>?_⟩⟩;have b:=TL w (.cells #[.int .i64 (d:Int),.int .i64 (e:Int)] 3)
 match j,a with
 |0,_=>exact gA b 0
 |1,_=>exact gA b 1
 |j+2,a=>omega
def Tryz.infoFieldQ:(prog.info? 112).map (fun i=>(i.zero,i.size,i.bytes))=some (some (.agg #[oZ,oZ]),2,16):=by kernel_rfl
def IF{B g N cc}{D:Nat->Prop}{r W ws a n c}(h:vM B g N cc D r W)(hw:ua W a n c ws W)(hl:∀s∈ws,s.length<=100000)(hn:ws.length<=100000)(hat:r.at_<=5)(hc:cc<=100001)(hB:B<=W.heap.size)(hg:GW W):
 Calls prog 332 #[U g,Z a n c] W (iE B g N cc D ((jk r.x 5 ws).map fun y=>⟨y,((5:Nat):Int),[]⟩) W):=by
 obtain⟨f,v,s,k,m,a3,w⟩:=h;have b2:=w.gB;have z:=(TH W W).alloc (aa _) (.cells #[.int .i64 ((6:Nat):Int),.int .i64 ((6:Nat):Int)] 3);have q:=O (w.fs.own hat);have H:=O a3;have L:=O w;have Hw:=O (sV hw z);have Hl:=O hl;have Hg:=O (hg.below z);have a1:=O hat;have Hn:=O hn;have l:=O z;have a8:=O hw.1;clear a3 w hw hl hg hat hn z;go_enter func332,ntmps332;go_wp2_with fail;refine(sS ws [6,6] a _ n 2 c 2 _ Hw (N1 6 6) (by have:=a8.out;have:=Hn.out;omega) (by omega) Hl (by decide) Hg).mono ?_;rintro e o F
 cases hv:kF ws [6,6]with
 |none=>
  unfold mu at F;rw[hv]at F;obtain⟨rfl,i⟩:=F;have hb:iE B g N cc D ((jk r.x 5 ws).map fun y=>(⟨y,((5:Nat):Int),[]⟩:jL)) W iX o:=iE.bad (la (by rw[ym,hv];rfl)) (I l i) (cE (ab b2 hB));have M:=hb;clear hb hv i l Hw H L q;unfold iX at M⊢;have a6:=O M;clear M;go_wp2_with fail;exact⟨rfl,a6⟩
 |some zs=>
  have hz:=(qj _ _ _ hv);unfold mu at F;rw[hv]at F;obtain⟨⟨a2,c2,rfl,hs,b0⟩,i⟩:=F
  obtain⟨z0,t,rfl⟩:∃z0 t,zs=[z0,t]:=by
   have:zs.length=2:=by rw[hz.1,hz.2];rfl
   match zs,this with
   |[x,y],_=>exact⟨x,y,rfl⟩
  obtain⟨b,off,rfl,a5,R⟩:=hs.at (by show 0<2;omega)
  have b9:W.heap.size<b:=by have:=b0 b rfl;simp at this;omega
  have n0:o.cell? ⟨b,off,none⟩=some (.int .i64 z0):=R 0 (by show 0<2;omega);have n1:o.cell? ⟨b,off+1,none⟩=some (.int .i64 t):=R 1 (by show 1<2;omega);have c0:2<=c2:=hs.2.1;have X:=H.go (I l i);have hL:=L.go (I l i);have hr:((jk r.x 5 ws).map fun y=>(⟨y,((5:Nat):Int),[]⟩:jL))=some ⟨{r.x with fs:=r.x.fs++[z0,t]},5,[]⟩:=map_some (k:=5) (by rw[ym,hv];rfl);obtain⟨cg,fg⟩:=X.cell 5;have b3:=TK X;have b5:=hL.fs.1;have Hr:=O hr;have Hb:=O (I l i);have HA:=O X;have HL:=O hL
  have b8:B<=o.heap.size:=by have:=(I l i).size;omega
  clear hr X hL i hv hz R hs l Hw H L;obtain⟨fa,fn,fc⟩:=f
  change o.cell? ⟨g,5,none⟩=some (.slice fa fn fc)at cg
  change fn<=cc at b5
  go_upto_region 1 with fail;refine kC (S:=fun x=>x=g\/x=b) 15 [(0,true),(1,true),(2,true),(3,true),(4,true),(5,true),(6,true),(7,true),(8,true),(9,true),(10,true),(11,true),(12,true),(13,false),(14,false)] (by kernel_rfl) (by kernel_rfl) ?_
  iterate 13
   refine kQ (v:=?_) ?_ ?_;rotate_left
   .intro y hy
    have k1:=(hy.cell (p:=⟨g,5,none⟩) (VR rfl)).trans cg;have k2:=(hy.cell (p:=⟨b,off,none⟩) (VS rfl)).trans n0;have k3:=(hy.cell (p:=⟨b,off+1,none⟩) (VS rfl)).trans n1;go_simp;with_reducible rfl
   try simp only[V]
  refine iT (fun K P=>?_);go_simp;refine P _ _ (fun x hx=>alloc_old (by obtain rfl|rfl:=hx;exact b3;exact a5)) ?_;clear P K;(try simp only[V]);have d:Below o o (o.drew.alloc (.cells [Value.int .i64 z0,.int .i64 t].toArray 112)):=gY ((TH _ _).drew);have u:=HA.go d;have Q:=HL.go d;have j:=Q.fs.own a1;have a0:=ab a5 d.size
  have a9:B<=(o.drew.alloc (.cells [Value.int .i64 z0,.int .i64 t].toArray 112)).heap.size:=by have:=d.size;omega
  have C:=TK u;refine iT (fun K P=>?_);refine nR underlying32 Tryz.infoFieldQ rfl (by omega) (by omega) _ _ rfl B _ (.slice fa fn fc) fn o _ [.int .i64 z0,.int .i64 t] rfl j.row (TL o.drew _) rfl rfl (by simp[Value.oneCell']) (by omega) a9 ?_;intro g2 cap w3 E A b1;have b4:b≠g/\(Value.slice fa fn fc).ownBlock≠some b:=⟨by omega,fun e=>by have:=(gT q.row e).2;omega⟩;refine P _ _ (fun x hx=>A.kept x (by obtain rfl|rfl:=hx;exact C;exact a0) (by obtain rfl|rfl:=hx;exact(fun e=>by have:=(gT j.row e).1;omega);exact b4.2)) ?_;clear P K;have a4:=(A.kept g C (fun e=>by have:=(gT j.row e).1;omega)).trans u;obtain⟨b6,b7⟩:=jm.cell a4 5;have HA:=O u;have HL:=O Q;have Hb:=O (I Hb d);have T:=O E;have a7:=O A;clear u Q j d E A a4 cg fg n0 n1;(try simp only[V]);refine nK rfl ?_;go_wp2_with fail;go_end0;exact FK Hr Hb HA HL T a7 b1 a1 hc hB
def Tryz.infoWaveQ:(prog.info? 63).map (fun i=>(i.zero,i.size,i.bytes))=some (some (.agg #[oZ,oZ]),2,16):=by kernel_rfl
def LQ{B g N cc}{D:Nat->Prop}{r W ws a n c}(h:vM B g N cc D r W)(hw:ua W a n c ws W)(hl:∀s∈ws,s.length<=100000)(hn:ws.length<=100000)(hat:r.at_<=6)(hc:cc<=100001)(hB:B<=W.heap.size)(hg:GW W):
 Calls prog 333 #[U g,Z a n c] W (iE B g N cc D ((jk r.x 6 ws).map fun y=>⟨y,((6:Nat):Int),[]⟩) W):=by
 obtain⟨f,v,s,k,m,a3,w⟩:=h;have b2:=w.gB;have z:=(TH W W).alloc (aa _) (.cells #[.int .i64 ((3:Nat):Int),.int .i64 ((0:Nat):Int)] 3);have q:=O (w.ws.own hat);have H:=O a3;have L:=O w;have Hw:=O (sV hw z);have Hl:=O hl;have Hg:=O (hg.below z);have a1:=O hat;have Hn:=O hn;have l:=O z;have a8:=O hw.1;clear a3 w hw hl hg hat hn z;go_enter func333,ntmps333;go_wp2_with fail;refine(sS ws [3,0] a _ n 2 c 2 _ Hw (N1 3 0) (by have:=a8.out;have:=Hn.out;omega) (by omega) Hl (by decide) Hg).mono ?_;rintro e o F
 cases hv:kF ws [3,0]with
 |none=>
  unfold mu at F;rw[hv]at F;obtain⟨rfl,i⟩:=F;have hb:iE B g N cc D ((jk r.x 6 ws).map fun y=>(⟨y,((6:Nat):Int),[]⟩:jL)) W iX o:=iE.bad (la (by rw[Av,hv];rfl)) (I l i) (cE (ab b2 hB));have M:=hb;clear hb hv i l Hw H L q;unfold iX at M⊢;have a6:=O M;clear M;go_wp2_with fail;exact⟨rfl,a6⟩
 |some zs=>
  have hz:=(qj _ _ _ hv);unfold mu at F;rw[hv]at F;obtain⟨⟨a2,c2,rfl,hs,b0⟩,i⟩:=F
  obtain⟨z0,t,rfl⟩:∃z0 t,zs=[z0,t]:=by
   have:zs.length=2:=by rw[hz.1,hz.2];rfl
   match zs,this with
   |[x,y],_=>exact⟨x,y,rfl⟩
  obtain⟨b,off,rfl,a5,R⟩:=hs.at (by show 0<2;omega)
  have b9:W.heap.size<b:=by have:=b0 b rfl;simp at this;omega
  have n0:o.cell? ⟨b,off,none⟩=some (.int .i64 z0):=R 0 (by show 0<2;omega);have n1:o.cell? ⟨b,off+1,none⟩=some (.int .i64 t):=R 1 (by show 1<2;omega);have c0:2<=c2:=hs.2.1;have X:=H.go (I l i);have hL:=L.go (I l i);have hr:((jk r.x 6 ws).map fun y=>(⟨y,((6:Nat):Int),[]⟩:jL))=some ⟨{r.x with ws:=r.x.ws++[z0,t]},6,[]⟩:=map_some (k:=6) (by rw[Av,hv];rfl);obtain⟨cg,fg⟩:=X.cell 6;have b3:=TK X;have b5:=hL.ws.1;have Hr:=O hr;have Hb:=O (I l i);have HA:=O X;have HL:=O hL
  have b8:B<=o.heap.size:=by have:=(I l i).size;omega
  clear hr X hL i hv hz R hs l Hw H L;obtain⟨fa,fn,fc⟩:=v
  change o.cell? ⟨g,6,none⟩=some (.slice fa fn fc)at cg
  change fn<=cc at b5
  go_upto_region 1 with fail;refine kC (S:=fun x=>x=g\/x=b) 15 [(0,true),(1,true),(2,true),(3,true),(4,true),(5,true),(6,true),(7,true),(8,true),(9,true),(10,true),(11,true),(12,true),(13,false),(14,false)] (by kernel_rfl) (by kernel_rfl) ?_
  iterate 13
   refine kQ (v:=?_) ?_ ?_;rotate_left
   .intro y hy
    have k1:=(hy.cell (p:=⟨g,6,none⟩) (VR rfl)).trans cg;have k2:=(hy.cell (p:=⟨b,off,none⟩) (VS rfl)).trans n0;have k3:=(hy.cell (p:=⟨b,off+1,none⟩) (VS rfl)).trans n1;go_simp;with_reducible rfl
   try simp only[V]
  refine iT (fun K P=>?_);go_simp;refine P _ _ (fun x hx=>alloc_old (by obtain rfl|rfl:=hx;exact b3;exact a5)) ?_;clear P K;(try simp only[V]);have d:Below o o (o.drew.alloc (.cells [Value.int .i64 z0,.int .i64 t].toArray 63)):=gY ((TH _ _).drew);have u:=HA.go d;have Q:=HL.go d;have j:=Q.ws.own a1;have a0:=ab a5 d.size
  have a9:B<=(o.drew.alloc (.cells [Value.int .i64 z0,.int .i64 t].toArray 63)).heap.size:=by have:=d.size;omega
  have C:=TK u;refine iT (fun K P=>?_);refine nR underlying33 Tryz.infoWaveQ rfl (by omega) (by omega) _ _ rfl B _ (.slice fa fn fc) fn o _ [.int .i64 z0,.int .i64 t] rfl j.row (TL o.drew _) rfl rfl (by simp[Value.oneCell']) (by omega) a9 ?_;intro g2 cap w3 E A b1;have b4:b≠g/\(Value.slice fa fn fc).ownBlock≠some b:=⟨by omega,fun e=>by have:=(gT q.row e).2;omega⟩;refine P _ _ (fun x hx=>A.kept x (by obtain rfl|rfl:=hx;exact C;exact a0) (by obtain rfl|rfl:=hx;exact(fun e=>by have:=(gT j.row e).1;omega);exact b4.2)) ?_;clear P K;have a4:=(A.kept g C (fun e=>by have:=(gT j.row e).1;omega)).trans u;obtain⟨b6,b7⟩:=jm.cell a4 6;have HA:=O u;have HL:=O Q;have Hb:=O (I Hb d);have T:=O E;have a7:=O A;clear u Q j d E A a4 cg fg n0 n1;(try simp only[V]);refine nK rfl ?_;go_wp2_with fail;go_end0;exact IC Hr Hb HA HL T a7 b1 a1 hc hB
