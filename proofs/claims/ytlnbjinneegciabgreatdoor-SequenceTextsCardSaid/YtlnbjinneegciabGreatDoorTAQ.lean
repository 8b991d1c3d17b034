import Derived.Test.YtlnbjinneegciabGreatDoorTAN
import Derived.RangeFuncNested
import Derived.RangeFuncBound
import Derived.OwnWalkIn
import Derived.TacticsInMore
import Derived.LoopNIn
import Derived.LoopIn
import Derived.RecoverIn
namespace Go.Proofs.YtlnbjinneegciabGreatDoor
set_option linter.all false
set_option maxRecDepth 100000
set_option maxHeartbeats 1600000
open Go.Proofs.Tryz Go.RowKit
def js(z:Int)(d:Nat)(w:World)(h1: -9223372036854775808<=z)(h2:z<=9223372036854775807)(c:d<=18)(a:GW w):Calls prog 16 #[z,.int .i64 (d:Int)] w (iZ w (.string (bs (iz z d)))):=by
 go_enter func16,ntmps16;go_wp2_with fail;refine(Fs z d w h1 h2 c a).mono ?_;rintro e f ⟨rfl,b:HQ _⟩;clear a;go_wp2;go_ret;exact⟨rfl,b⟩
def PT(w:World)(b:Nat)(p v:Value)(hb:w.heap[b]? =some (.cells #[p,v] 73 (0,0))):(convert 69 197 (.pointer (J b))).run prog w=.ok (.pointer (J b)) w:=by
 obtain⟨i,hi⟩:∃i,prog.info? 71=some i/\i.size≠0:=by
  have h:(prog.info? 71).any (fun i=>decide (i.size≠0))=true:=by kernel_rfl
  cases hi:prog.info? 71 with
  |none=>rw[hi]at h;cases h
  |some i=>rw[hi]at h;exact⟨i,rfl,by simpa using h⟩
 exact Lib.run_to_unsafe (e:=73) (cells:=2) _ _ underlying69 underlying197 hi.1 hi.2 (by simp[World.shape?,hb]) (by show 0<2;omega)
def Lu(w:World)(b:Nat)(p v:Value)(hb:w.heap[b]? =some (.cells #[p,v] 73 (0,0))):(convert 197 69 (.pointer (J b))).run prog w=.ok (.pointer (J b)) w:=by
 obtain⟨i,hi⟩:∃i,prog.info? 71=some i:=by
  have h:(prog.info? 71).isSome=true:=by kernel_rfl
  exact eL.1 h
 exact Lib.run_from_unsafe (e:=73) (cells:=2) _ _ underlying197 underlying69 hi (by simp[World.shape?,hb]) (by kernel_rfl)
def NO(w:World)(b:Nat):(binOp .neq 69 (.pointer (J b)) (.pointer (J b))).run prog w=.ok (.bool false) w:=by
 obtain⟨i,hi⟩:∃i,prog.info? 71=some i:=by
  have h:(prog.info? 71).isSome=true:=by kernel_rfl
  exact eL.1 h
 exact Lib.run_neq_ptr_same w _ underlying69 hi
def rE{w:World}{B:Nat}{e:TypeId}{k n:Nat}{v:Value}{xs:List Value}{b:Nat}(h:w.ownsRow B e k v n xs)(hb:v.ownBlock≠some b)(j:Nat)(u:Value):(w.setCell ⟨b,j,none⟩ u).ownsRow B e k v n xs:=by
 obtain⟨h1,h2⟩:=h;refine⟨h1,?_⟩
 obtain h2|⟨g,cap,cells,rfl,hg,hc,hrest⟩:=h2
 .exact VR h2
 .exact VS ⟨g,cap,cells,rfl,hg,(TI _ _ _ _ (fun e=>hb (by rw[e];rfl))).trans hc,hrest⟩
def kY(b:Nat)(w w':World):Prop:=∀(k:Nat)(cs:Array Value)(T:TypeId)(fr:Nat×Nat),w.heap[k]? =some (.cells cs T fr)->T≠5->k≠b->w'.heap[k]? =some (.cells cs T fr)
def kY.refl(b:Nat)(w:World):kY b w w:=fun _ _ _ _ h _ _=>h
def kY.trans{b:Nat}{w c d:World}(h1:kY b w c)(h2:kY b c d):kY b w d:=fun k cs T fr h a hb=>h2 k cs T fr (h1 k cs T fr h a hb) a hb
def kY.below{b:Nat}{w w':World}(h:Below w w w'):kY b w w':=fun k cs T fr a _ _=>(h.block k (TK a)).trans a
def kY.put{b j:Nat}{w w':World}{u:Value}(h:kY b w w'):kY b w (w'.setCell ⟨b,j,none⟩ u):=fun k cs T fr c a hb=>(TI _ _ _ _ (fun e=>hb e)).trans (h k cs T fr c a hb)
def kY.grown{b B n m:Nat}{w c w':World}{v:Value}{xs:List Value}(h:kY b w c)(a:c.ownsRow B 5 m v n xs)(f:c.grownBy w' v.ownBlock):kY b w w':=fun k cs T fr i d hb=>by
 have h1:=h k cs T fr i d hb;refine(f.block k (TK h1) (fun e=>?_)).trans h1
 obtain ⟨rfl,_⟩|⟨g,cap,j,rfl,_,h2,_⟩:=a.2
 .cases e
 .cases e
  rw[h2]at h1;cases h1;exact d rfl
def DC(x:Value)(w:World):(callFunc 107 #[x]).run prog w=.ok (.value x) w:=by kernel_rfl
def Fw(B b:Nat)(xs:List Value)(w:World)(h:Lib.IsBuilder 73 5 B b xs w):
 Calls prog 71 #[U b] w fun e w'=>e=.returned (.tuple #[])/\Lib.BuilderAt 73 5 B b (.pointer (J b)) xs w'/\Below B w w'/\kY b w w':=by
 obtain ⟨h1,v,h2,h3,a⟩|⟨h1,v,h2,h3,a⟩:=h
 .have c0:=VV h2 0
  have f0:=gD h2 0;have k1:=PT w b _ _ h2;have g:=Lu w b _ _ h2;have f:=DC (.pointer (J b)) w;have c:=O h2;have d:=O h3;clear h2 h3;go_enter func71,ntmps71;go_wp2;go_end0;exact⟨rfl,⟨h1,v,gG c 0 _,rE d a 0 _,a⟩,(TH B w).setCell (p:=J b) h1 _,(kY.refl b w).put⟩
 .have c0:=VV h2 0
  have f:=NO w b;have c:=O h2;have d:=O h3;clear h2 h3;go_enter func71,ntmps71;go_wp2;go_end0;exact⟨rfl,⟨h1,v,c,d,a⟩,TH _ _,kY.refl _ _⟩
def RC:(prog.info? 5).map (fun i=>(i.zero,i.size,i.bytes))=some (some (.int .u8 0),1,1):=by kernel_rfl
def Iz(B b:Nat)(l m:List UInt8)(w:World)(h:Lib.IsBuilder 73 5 B b (Lib.byteCells l) w)(P:l.length+m.length<=1000000)(N:B<=w.heap.size):
 Calls prog 38 #[U b,.string (bs m)] w fun e w'=>e=.returned (.tuple #[m.length,.nilIface])/\Lib.IsBuilder 73 5 B b (Lib.byteCells (l++m)) w'/\Below B w w'/\kY b w w':=by
 obtain⟨K,hi,A,C,D⟩:=info_parts RC;have y:(Lib.byteCells l).length=l.length:=Lib.byteCells_length l;have z:(bs m).size=m.length:=rfl;go_enter func38,ntmps38;go_wp2_with fail;refine(Fw B b _ w h).mono ?_;rintro e Q ⟨rfl,⟨h1,v,h2,h3,F⟩,i,q⟩;have c1:=VV h2 1;have hlt:=TK h2
 go_wp2_with(at_builtin;refine Lib.wpList_append_own_string _ rfl _ _ 24 9 rfl B 5 K underlying24 underlying9 hi A C D _ _ _ rfl h3 (bs m) rfl ?c3 ?c4 ?c5 ?_)
 case c3=>unfold maxLen;omega
 case c4=>omega
 case c5=>have:=i.size;omega
 intro s E c a _;have j:E.heap[b]? =some (.cells #[U b,v] 73 (0,0)):=(a.block b hlt (fun e=>F e.symm)).trans h2;have M:=VV j 1;have f1:=gD j 1;have o:=(i.grown a (by have:=i.size;omega) (fun k H=>(h3.lt k H).1)).setCell (p:=⟨b,1,none⟩) h1 s;have u:=O (show kY b w (E.setCell ⟨b,1,none⟩ s)from(q.grown h3 a).put);have d:=Lib.BuilderAt.put (T:=73) (e:=5) h1 j (bs':=Lib.byteCells l++Lib.strCells (bs m)) (by rw[al,Lib.strCells_length,y,z];exact c) (by decide);have f:Lib.byteCells l++Lib.strCells (bs m)=Lib.byteCells (l++m):=(Lib.byteCells_append l m).symm;rw[f]at d
 obtain⟨x,n',cap,rfl⟩:∃x n' cap,s=.slice x n' cap:=by
  obtain ⟨r,_⟩|⟨g,cap,L,r,_⟩:=c.2
  .exact⟨_,_,_,r⟩
  .exact⟨_,_,_,r⟩
 have t:=O o;have n:=O d;clear o d q f c a h3 c1;go_wp2;go_ret2;exact⟨rfl,VS n.out,t,u⟩
structure TB (t:List UInt8) (Iq0:Nat->Nat->World->Prop) (Ix:List PanicEntry->World->Prop) (l n:Nat):Prop where
 lines:∀g i W,Iq0 g i W->W.heap[g]? =some (.cells (ji (io [] t)).toArray 9 (0,0))
 gw:∀g i W,Iq0 g i W->GW W
 go:∀g i W W',Iq0 g i W->Below W.heap.size W W'->Iq0 g i W'
 skip:∀g i W s,Iq0 g i W->(io [] t)[i]? =some s->V9 (iA [] s)=true->Iq0 g (i+1) W
 yield:∀g i W s A,Iq0 g i W->(io [] t)[i]? =some s->V9 (iA [] s)=false->ua W (J A) (iA [] s).length (iA [] s).length (iA [] s) W.heap.size->
  YieldAt Fence.wide n prog l #[.int .i64 ((i:Int)+1),Z (J A) (iA [] s).length (iA [] s).length] W fun e W'=>
   (e=.returned (.bool true)/\Iq0 g (i+1) W')\/ ∃chain,e=.panicked chain/\Ix chain W'
def IA(t:List UInt8)(b:Nat->Nat->World->Prop)(c:List PanicEntry->World->Prop)(e:Ending)(w':World):Prop:=
 (e=.returned (.tuple #[])/\ ∃g,b g (io [] t).length w')\/ ∃a,e=.panicked a/\c a w'
def Lv(t:List UInt8)(d:Nat->Nat->World->Prop)(x:List PanicEntry->World->Prop)(l n b:Nat)(w:World)(hI:TB t d x l n)(hb:w.cell? (J b)=some (.string (bs t)))(hg:GW w)(ht:t.length<=100000)
 (h0:d w 0 (w.alloc (.cells (ji (io [] t)).toArray 9))):
 Calls prog 117 #[.func (.yield l) #[] #[],U b] w (IA t d x):=by
 have p:=O hI;have T:=O hg;have hN:=qI t [];have S:=O (uF t []);clear hI hg;go_enter func117,ntmps117;go_wp2_with fail;refine(Iq t w T (by omega)).mono ?_;rintro e w1 ⟨rfl,rfl⟩;generalize(w.alloc (.cells (ji (io [] t)).toArray 9))=w1 at*;generalize w.heap.size=g at*;have R:=O h0;clear h0 hb T;obtain⟨N,D⟩:∃N,(io [] t).length=N:=⟨_,rfl⟩;rw[D]at hN⊢;go_upto_region 1 with fail
 go_loopw [9] (fun Q wr=>∃i:Nat,i<=N/\Q=.int .i64 (i:Int)/\d g i wr) (fun Q _=>N-(intOf Q).toNat)
 case atStart=>exact⟨0,aA _,rfl,R⟩
 case round=>
  clear R;obtain⟨i,hi,rfl,E⟩:=hrel;have r:=O E;clear E;by_cases a5:i<N
  .obtain⟨s,z⟩:∃s,(io [] t)[i]? =some s:=⟨(io [] t)[i]'(by omega),ae _⟩
   have c0:wr.cell? ⟨g,i,none⟩=some (.string (bs s)):=by
    rw[VV (p.lines g i wr r) i,bo,ji,aR,z];rfl
   have a2:s.length<=1000000:=by have:=S s (aL z);simp at this;omega
   have X:=O z;clear z;go_wp2_with fail;refine(Ir s wr a2).mono ?_;rintro e B ⟨A,rfl,hw,hb⟩;have u:=O hw;have C:=O (p.go g i wr B r hb);have W:=O (fun v hv=>uE s [] v hv);have k:=O (p.skip g i B s C X);have m:=O (p.yield g i B s A C X);have a8:=pH s [];clear hb c0 r;generalize iA [] s=ws at*
   cases ws with
   |nil=>
    have j:=O (k rfl);clear k m u hw;go_wp2
    go_roundw
    case rel=>exact⟨i+1,by omega,by go_num,j⟩
    case measure=>simp[intOf];omega
   |cons wd o=>
    have K:=W wd aG
    cases wd with
    |nil=>exact absurd rfl K
    |cons y c=>
     clear K
     have a4:B.cell? (J A)=some (.string (bs (y::c))):=by
      obtain⟨q,off,e1,e2,e3⟩:=hw.2.2 (by simp);cases e1;exact e3 0 _ rfl
     have a7:(((y::c)::o).length:Int)≠0:=by simp;omega
     have a6:((y::c)::o).length<=1000010:=by omega
     clear hw;by_cases a:y=35
     .have j:=O (k (by subst a;rfl))
      have a1:(((bs (y::c))[0]'(by show 0<(y::c).length;simp)).toNat:Int)=35:=by
       show(y.toNat:Int)=35
       subst a;rfl
      clear a k m u;go_wp2
      go_roundw
      case rel=>exact⟨i+1,by omega,by go_num,j⟩
      case measure=>simp[intOf];omega
     .have h:V9 ((y::c)::o)=false:=by
       show((some y:Option UInt8)==some 35)=false
       rw[ak];intro e;exact a (aE e)
      have a1:¬(((bs (y::c))[0]'(by show 0<(y::c).length;simp)).toNat:Int)=35:=by
       show¬(y.toNat:Int)=35
       intro e
       have a0:y.toNat=(35:UInt8).toNat:=by
        show y.toNat=35
        omega
       exact a (UInt8.toNat.inj a0)
      obtain⟨fn,tm,a3,bd,P,hR⟩:=m h u;rw[aH]at P;have L:=O hR;clear a k m u h hR;go_upto_region 4 with fail;refine(wpIn_wide (n:=n+1)).1 ?_
      gi_wp2
      refine L.mono ?_;rintro e w3 (⟨rfl,F⟩|⟨f,rfl,H⟩)
      .have j:=O F
       clear F L P
       gi_wp2
       go_wp2
       go_roundw
       case rel=>exact⟨i+1,by omega,by go_num,j⟩
       case measure=>simp[intOf];omega
      .have M:=O (show IA t d x (.panicked f) w3 from VS ⟨f,rfl,H⟩)
       clear H L P
       gi_wp2
       exact⟨rfl,M⟩
  .obtain rfl:i=N:=by omega
   have hr:IA t d x (.returned (.tuple #[])) wr:=VR ⟨rfl,g,by rw[D];exact r⟩;have M:=O hr;clear hr;go_wp2;go_end0;exact M
def Fx(p q:Addr)(n:Nat)(w:World):
 CallsDIn Fence.wide n prog 78 #[.pointer (some p),.pointer (some q)] .returning w fun e d w'=>e=.returned (.tuple #[])/\d=.returning/\w'=w:=by
 refine callsDIn_of_wpSIn func78 rfl trivial fun a cs c=>?_
 apply wpSIn_seq;apply wpSIn_region;simp[wpOpsSIn,go_sem,recoverD,c,ntmps78,Exit.thenS];refine wpSIn_of_wpIn rfl ((wpIn_wide (n:=n)).2 (wp_mono (Q:=fun e a' w'=>e=.normal/\a'.defers=[]/\w'=w) ?_ ?_))
 .go_wp2_with fail
 .rintro e a' w' ⟨rfl,b,rfl⟩
  exact⟨b,_,by cases a;simp_all,_,by simp[results,results78],rfl,rfl,rfl⟩
def NQ(p q:Nat)(w w':World):Prop:=kr w' p 37 lz ij ij ij ij/\w'.heap[q]? =some (.cells #[.int .i64 5] 44 (0,0))/\(∀k,k<w.heap.size->k≠p->k≠q->w'.heap[k]? =w.heap[k]?)/\Below (min p q) w w'
def xp(p q:Nat)(j:p≠q)(a:List PanicEntry)(n:Nat)(w:World){cs:Array Value}{e0:Value}(m:w.heap[p]? =some (.cells cs 37 (0,0)))(C:cs.size=9)(o:w.heap[q]? =some (.cells #[e0] 44 (0,0))):
 CallsDIn Fence.wide n prog 78 #[U p,U q] (.panicking ({v:=.iface 160 (.agg #[]),recovered:=false}::a)) w fun e K w'=>
  e=.returned (.tuple #[])/\K=.panicking ({v:=.iface 160 (.agg #[]),recovered:=true}::a)/\NQ p q w w':=by
 refine callsDIn_of_wpSIn func78 rfl trivial fun S cs r=>?_
 apply wpSIn_seq;apply wpSIn_region;simp[wpOpsSIn,go_sem,recoverD,r,ntmps78,Exit.thenS];refine wpSIn_of_wpIn rfl ((wpIn_wide (n:=n)).2 (wp_mono (Q:=fun e a' w'=>e=.normal/\a'.defers=[]/\NQ p q w w') ?_ ?_));rotate_left
 .rintro e a' w' ⟨rfl,l,F⟩
  exact⟨l,_,rfl,_,by simp[results,results78],rfl,rfl,F⟩
 have A:=TK m;have B:=TK o;have f:=(TH w w).alloc (ag _) (.cells #[] 160);have s:=O ((f.block p A).trans m);have h:=(f.block q B).trans o;have l:=VV h 0;have z:=gD h 0;have t:=O h;have i:=O f;have R:=O r;clear h f m o r
 have P:∀x:World,(Instr.typeAssert (.iface 160 (.agg #[])) 20 160 true).run prog x=.ok (.tuple #[.agg #[],true]) x:=fun _=>by kernel_rfl
 go_upto_region 7 with fail
 have N:w.heap.size<(w.alloc (.cells #[] 160)).heap.size:=by simp
 generalize(w.alloc (.cells #[] 160))=w1 at*;clear l z
 have g:∀d:World,d=w1.setCells p 0 (iw lz ij ij ij ij)->d.heap[q]? =some (.cells #[e0] 44 (0,0)):=fun d E=>by
  rw[E];exact(gK p _ 0 w1 q (fun e=>j e.symm)).trans t
 have c:=O g;clear g
 go_wp2_with(refine ja lz ij ij ij ij s C rfl (.tmp 0) (.tmp 11) rfl rfl rfl ?_;intro d (D:HQ _) (E2:HQ _);have L:=VV (c d E2) 0;have M:=gD (c d E2) 0)
 have u:=O (c _ E2);refine⟨?_,gG u 0 (.int .i64 5),?_,?_⟩
 .exact gF D (J q) (fun e=>j e.symm) (.int .i64 5)
 .intro k H h1 h2
  refine(TI _ _ _ _ (fun e=>h2 e)).trans ?_;rw[E2];exact(gK p _ 0 w1 k h1).trans (i.block k H)
 .have y:Below (min p q) w d:=by
   rw[E2];exact ig (b:=p) (Nat.min_le_left _ _) _ _ (i.mono (by omega))
  exact y.setCell (p:=J q) (Nat.min_le_right _ _) _
def yN(r:jL)(f v s k:iJ)(m:Value):List Value:=iw r.x f v s k++[.int .i64 r.at_,m]
def nx(w:World)(g:Nat)(r:jL)(f v s k:iJ)(m:Value):Prop:=w.heap[g]? =some (.cells (yN r f v s k m).toArray 164 (0,0))
def pI(Rd:Nat->(Nat->Prop)->jL->World->Prop)(g c:Nat)(D:Nat->Prop)(r:jL)(ws:List (List UInt8))(W:World)(e:Ending)(W':World):Prop:=
 Below g W W'/\(∀k,k<W.heap.size-> ¬D k->W'.heap[k]? =W.heap[k]?)/\
  ((∃q,kp r ws=some q/\e=.returned (.tuple #[])/\ ∃D':Nat->Prop,(∀b,D' b->D b\/W.heap.size<=b)/\Rd (c+1) D' q W')\/(kp r ws=none/\e=iX))
structure vD (B g:Nat) (Rd:Nat->(Nat->Prop)->jL->World->Prop):Prop where
 lens:∀c D r W,Rd c D r W-> ∃f v s k m,nx W g r f v s k m/\iP (fun b=>B<=b/\b<W.heap.size) W r.x f v s k
 own:∀c D r W b,Rd c D r W->D b->(b=g\/B<=b)/\b<W.heap.size
 kept:∀c D r W W',Rd c D r W->(∀k,k=g\/B<=k->k<W.heap.size->W'.heap[k]? =W.heap[k]?)->W.heap.size<=W'.heap.size->Rd c D r W'
 read:∀c D r W ws A,Rd c D r W->ua W (J A) ws.length ws.length ws W.heap.size->ws≠[]->(∀s∈ws,s.length<=100000)->ws.length<=100001->c<=100001->B<=W.heap.size->GW W->TW g W->
  Calls prog 80 #[U g,Z (J A) ws.length ws.length] W (pI Rd g c D r ws W)
def TW.mono{N M:Nat}{w:World}(h:TW N w)(b:N<=M):TW M w:=by
 refine⟨af h.glo b,h.par,?_,h.oth.mono b,h.rdr.mono b,?_⟩
 .obtain⟨a,n,c,h1,h2⟩:=h.ord
  exact⟨a,n,c,h1,h2.kept (fun _ _=>rfl) b⟩
 .obtain⟨a,n,c,h1,h2⟩:=h.kin
  exact⟨a,n,c,h1,h2.kept (fun _ _=>rfl) b⟩
structure tl (N:Nat) (w W:World):Prop where
 len:kr W N 37 lz ij ij ij ij
 err:W.heap[N+2]? =some (.cells #[oZ] 44 (0,0))
 ptr:W.heap[N+4]? =some (.cells #[U (N+3)] 161 (0,0))
 dfr:W.heap[N+6]? =some (.deferred (some []))
 bel:Below N w W
 gw:GW W
 tw:TW N W
 sz:N+8<=W.heap.size
def tl.kept{N:Nat}{w W W':World}(h:tl N w W)(c:14<=N)(a:∀k,k<N+7->k≠N+3->k≠N+1->W'.heap[k]? =W.heap[k]?)(hb:Below N W W'):tl N w W':=
 ⟨(a N (by omega) (by omega) (by omega)).trans h.len,(a (N+2) (by omega) (by omega) (by omega)).trans h.err,(a (N+4) (by omega) (by omega) (by omega)).trans h.ptr,(a (N+6) (by omega) (by omega) (by omega)).trans h.dfr,
   h.bel.trans hb,h.gw.kept (fun b hlt=>hb.block b (by omega)) (by have:=h.gw.sz;have:=hb.size;have:=h.sz;omega),h.tw.below hb,by have:=hb.size;have:=h.sz;omega⟩
structure yF (Rd:Nat->(Nat->Prop)->jL->World->Prop) (N:Nat) (w:World) (t:List UInt8) (rc:Loop) (gl i:Nat) (W:World):Prop where
 base:tl N w W
 line:∃n:Int,W.heap[N+1]? =some (.cells #[n] 3 (0,0))
 loop:W.heap[N+7]? =some (.loop rc)
 lines:W.heap[gl]? =some (.cells (ji (io [] t)).toArray 9 (0,0))
 hgl:N+8<=gl
 rd:∃(c:Nat)(D:Nat->Prop)(r:jL),c<=i/\lR 0 Ae (io [] t)=lR i r ((io [] t).drop i)/\Rd c D r W/\ ¬D gl
structure LA (N:Nat) (w:World) (t:List UInt8) (chain:List PanicEntry) (W:World):Prop where
 ch:chain=[{v:=.iface 160 (.agg #[]),recovered:=false}]
 base:tl N w W
 no:∃n:Nat,lR 0 Ae (io [] t)=.error n/\W.heap[N+1]? =some (.cells #[.int .i64 (n:Int)] 3 (0,0))
def yO{α:Type}{L:List α}{i:Nat}{s:α}(h:L[i]? =some s):L.drop i=s::L.drop (i+1):=by
 have hi:=(TG.1 h).1;rw[dG hi,(TG.1 h).2]
def Fy{L:List (List UInt8)}{i:Nat}{s:List UInt8}(r:jL)(h:L[i]? =some s)(a:V9 (iA [] s)=true):lR i r (L.drop i)=lR (i+1) r (L.drop (i+1)):=by
 rw[yO h,lR,aq a]
def LB{L:List (List UInt8)}{i:Nat}{s:List UInt8}{r q:jL}(h:L[i]? =some s)(b:V9 (iA [] s)=false)(a:kp r (iA [] s)=some q):lR i r (L.drop i)=lR (i+1) q (L.drop (i+1)):=by
 rw[yO h,lR,aj (by rw[b];simp),a]
def LC{L:List (List UInt8)}{i:Nat}{s:List UInt8}{r:jL}(h:L[i]? =some s)(b:V9 (iA [] s)=false)(a:kp r (iA [] s)=none):lR i r (L.drop i)=.error (i+1):=by
 rw[yO h,lR,aj (by rw[b];simp),a]
def yF.go{Rd:Nat->(Nat->Prop)->jL->World->Prop}{N:Nat}{w:World}{t:List UInt8}{b:Loop}{gl i:Nat}{W W':World}(f:vD (N+8) (N+3) Rd)(e:14<=N)(h:yF Rd N w t b gl i W)(hb:Below W W W'):yF Rd N w t b gl i W':=by
 have j:=h.base.sz
 have a:∀k,k<W.heap.size->W'.heap[k]? =W.heap[k]? :=fun k a=>hb.block k a
 obtain⟨n,g⟩:=h.line;obtain⟨c,D,r,h1,h2,h3,d⟩:=h.rd
 exact⟨h.base.kept e (fun k hlt _ _=>a k (by omega)) (hb.mono (by omega)),⟨n,(a _ (by omega)).trans g⟩,(a _ (by omega)).trans h.loop,(a _ (TK h.lines)).trans h.lines,h.hgl,
  c,D,r,h1,h2,f.kept c D r W W' h3 (fun k _ hlt=>a k hlt) hb.size,d⟩
def yF.skip{Rd:Nat->(Nat->Prop)->jL->World->Prop}{N:Nat}{w:World}{t:List UInt8}{a:Loop}{gl i:Nat}{W:World}{s:List UInt8}(h:yF Rd N w t a gl i W)(e:(io [] t)[i]? =some s)(d:V9 (iA [] s)=true):yF Rd N w t a gl (i+1) W:=by
 obtain⟨c,D,r,h1,h2,h3,b⟩:=h.rd;exact⟨h.base,h.line,h.loop,h.lines,h.hgl,c,D,r,by omega,h2.trans (Fy r e d),h3,b⟩
def ow(N:Nat)(a:Loop)(i:Nat)(W:World):World:=(W.putObj (N+7) (.loop {a with state:=.busy})).setCell (J (N+1)) (.int .i64 ((i:Int)+1))
def rh(N:Nat)(a:Loop)(i:Nat)(W:World)(k:Nat)(h1:k≠N+7)(h2:k≠N+1):(ow N a i W).heap[k]? =W.heap[k]? :=
 (TI _ _ _ _ (fun e=>h2 e)).trans (World.putObj_heap_other h1)
def FA(N:Nat)(a:Loop)(i:Nat)(W:World):(ow N a i W).heap.size=W.heap.size:=by unfold ow;simp
def ox{B r:Nat}{w W:World}{o:Obj}(h:Below B w W)(c:B<=r):Below B w (W.putObj r o):=by
 obtain⟨h1,h2,h3,a,h5⟩:=h;exact⟨h1,h2,h3,by simpa using a,fun k b=>(World.putObj_heap_other (by omega)).trans (h5 k b)⟩
def DF(N:Nat)(a:Loop)(i:Nat)(W:World):Below N W (ow N a i W):=
 (ox (TH N W) (by omega)).setCell (p:=J (N+1)) (by show N<=N+1;omega) _
def FB(N:Nat)(a:Loop)(i:Nat)(W:World)(n:Int)(h:W.heap[N+1]? =some (.cells #[n] 3 (0,0))):(ow N a i W).heap[N+1]? =some (.cells #[.int .i64 ((i:Int)+1)] 3 (0,0)):=
 gG ((World.putObj_heap_other (by omega)).trans h) 0 (.int .i64 ((i:Int)+1))
def FC(N:Nat)(a b:Loop)(i:Nat)(W:World)(h:W.heap[N+7]? =some (.loop b)):(ow N a i W).heap[N+7]? =some (.loop {a with state:=.busy}):=
 (TI _ _ _ _ (fun e=>by have:N+7=N+1:=e;omega)).trans (World.putObj_heap_same (TK h))
def NR(Rd:Nat->(Nat->Prop)->jL->World->Prop)(N:Nat)(w:World)(t:List UInt8)(b:Loop)(gl i:Nat)(e:Ending)(W':World):Prop:=
 (e=.returned (.bool true)/\yF Rd N w t b gl (i+1) W')\/ ∃a,e=.panicked a/\LA N w t a W'
def IB{Rd:Nat->(Nat->Prop)->jL->World->Prop}{N:Nat}{w:World}{t:List UInt8}{a:Loop}{gl i:Nat}{W:World}{s:List UInt8}{A:Nat}(C:vD (N+8) (N+3) Rd)(P:14<=N)(h:yF Rd N w t a gl i W)(b0:a.state=.ready)(b1:a.pending=none)
 (H:(io [] t)[i]? =some s)(y:V9 (iA [] s)=false)(hw:ua W (J A) (iA [] s).length (iA [] s).length (iA [] s) W)(ht:t.length<=20000):
 Calls prog 80 #[U (N+3),Z (J A) (iA [] s).length (iA [] s).length] (ow N a i W) fun e d=>match e with
  | .returned _=>d.heap[N+7]? =some (.loop {a with state:=.busy})/\NR Rd N w t a gl i (.returned (.bool true)) (d.putObj (N+7) (.loop a))
  | .panicked u=>NR Rd N w t a gl i (.panicked u) d
  | .outgrown=>False:=by
 obtain⟨n,hn⟩:=h.line;obtain⟨c,D,r,h1,h2,h3,S⟩:=h.rd;have b2:=h.base.sz;have a8:=FA N a i W;have hi:=(TG.1 H).1;have hL:=qI t [];have a5:=uF t [] s (aL H);have b3:=pH s []
 have a7:=fun v R=>sN s [] v R
 rw[cI]at a5;have K:Rd c D r (ow N a i W):=C.kept c D r W _ h3 (fun k a0 hlt=>rh N a i W k (by omega) (by omega)) (by omega)
 have a6:ua (ow N a i W) (J A) (iA [] s).length (iA [] s).length (iA [] s) (ow N a i W).heap.size:=by
  refine⟨hw.1,hw.2.1,fun h0=>?_⟩;obtain⟨q,off,e1,e2,e3⟩:=hw.2.2 h0;refine⟨q,off,e1,by omega,fun j x hx=>?_⟩;have m:=e3 j x hx
  have a4:q≠N+7:=fun e=>by rw[e,World.cell?,h.loop]at m;cases m
  have a3:q≠N+1:=fun e=>by
   rw[e,VV hn]at m
   obtain h0|h0:=cM (off+j)
   .rw[h0]at m;cases m
   .rw[bo,bz (by simp;omega)]at m;cases m
  rw[<- m];simp only[World.cell?,rh N a i W q a4 a3]
 have p:iA [] s≠[]:=fun e=>by rw[e]at y;cases y
 have z:=h.base.kept (W':=ow N a i W) P (fun k hlt _ h1=>rh N a i W k (by omega) h1) (DF N a i W);refine(C.read c D r _ _ A K a6 p (fun v R=>by have:=a7 v R;simp at this;omega) (by omega) (by omega) (by omega) z.gw (z.tw.mono (by omega))).mono ?_;rintro e d ⟨hb,f,a2⟩
 have E:=fun b hb=>(C.own c D r _ b K hb).1
 have a1:∀k,k<N+8->k≠N+3-> ¬D k:=fun k hlt p M=>by have:=E k M;omega
 have B:∀k,k<N+8->k≠N+3->d.heap[k]? =(ow N a i W).heap[k]? :=fun k hlt p=>f k (by omega) (a1 k hlt p)
 have l:=(B (N+7) (by omega) (by omega)).trans (FC N a a i W h.loop);have g:=(B (N+1) (by omega) (by omega)).trans (FB N a i W n hn);have L:=z.kept (W':=d) P (fun k hlt h1 _=>B k (by omega) h1) (hb.mono (by omega));have hgl:gl<W.heap.size:=TK h.lines;have o:d.heap[gl]? =some (.cells (ji (io [] t)).toArray 9 (0,0)):=(f gl (by omega) S).trans ((rh N a i W gl (by have:=h.hgl;omega) (by have:=h.hgl;omega)).trans h.lines)
 obtain ⟨q,Q,rfl,D',T,X⟩|⟨Q,rfl⟩:=a2
 .refine⟨l,VR ⟨rfl,?_⟩⟩
  have F:∀k,k≠N+7->(d.putObj (N+7) (.loop a)).heap[k]? =d.heap[k]? :=fun k y=>World.putObj_heap_other y
  have a9:=h.hgl
  exact⟨L.kept P (fun k hlt _ _=>F k (by omega)) (ox (TH N d) (by omega)),⟨_,(F _ (by omega)).trans g⟩,World.putObj_heap_same (TK l),(F _ (by omega)).trans o,h.hgl,
   c+1,D',q,by omega,h2.trans (LB H y Q),C.kept _ D' q d _ X (fun k a0 hlt=>F k (by omega)) (by simp),fun M=>by
    obtain h5|h5:=T gl M
    .exact S h5
    .omega⟩
 .exact VS ⟨_,rfl,rfl,L,i+1,h2.trans (LC H y Q),g⟩
def DG(N m:Nat)(b:Loop):Prop:=∀(i A n:Nat)(W:World)(R:Ending->World->Prop),W.heap[N+7]? =some (.loop b)->(∃z:Int,W.heap[N+1]? =some (.cells #[z] 3 (0,0)))->
 W.heap[N+4]? =some (.cells #[U (N+3)] 161 (0,0))->i<=100000->
 Calls prog 80 #[U (N+3),Z (J A) n n] (ow N b i W) (fun e c=>match e with
  | .returned _=>c.heap[N+7]? =some (.loop {b with state:=.busy})/\R (.returned (.bool true)) (c.putObj (N+7) (.loop b))
  | .panicked a=>R (.panicked a) c
  | .outgrown=>False)->YieldAt Fence.wide m prog (N+7) #[.int .i64 ((i:Int)+1),Z (J A) n n] W R
def NS{Rd:Nat->(Nat->Prop)->jL->World->Prop}{N m:Nat}{w:World}{t:List UInt8}{b:Loop}(e:vD (N+8) (N+3) Rd)(d:14<=N)(l:t.length<=20000)(j:b.state=.ready)(f:b.pending=none)(k:DG N m b):
 TB t (yF Rd N w t b) (LA N w t) (N+7) m where
 lines:=fun g i W h=>h.lines
 gw:=fun g i W h=>h.base.gw
 go:=fun g i W W' h hb=>h.go e d hb
 skip:=fun g i W s h a c=>h.skip a c
 yield:=fun g i W s A h a c hw=>by
  have hi:=(TG.1 a).1;have n:=qI t [];exact k i A _ W _ h.loop h.line h.base.ptr (by omega) (IB e d h j f a c hw l)
def FD{Rd:Nat->(Nat->Prop)->jL->World->Prop}{N m:Nat}{w:World}{t:List UInt8}{d:Loop}(l:vD (N+8) (N+3) Rd)(j:14<=N)(v:t.length<=20000)(q:d.state=.ready)(p:d.pending=none)(u:DG N m d)
 {W:World}(y:W.heap.size=N+8)(hb:tl N w W)(s:∃z:Int,W.heap[N+1]? =some (.cells #[z] 3 (0,0)))(o:W.heap[N+7]? =some (.loop d))(n:W.cell? (J (N+5))=some (.string (bs t)))(h0:Rd 0 (fun b=>b=N+3) Ae W):
 Calls prog 117 #[.func (.yield (N+7)) #[] #[],U (N+5)] W fun e i=>match e with
  | .returned _=>(∃gl,yF Rd N w t d gl (io [] t).length i)
  | .panicked a=>LA N w t a i
  | .outgrown=>False:=by
 have f:=(TH W W).alloc (ag _) (.cells (ji (io [] t)).toArray 9)
 have c:∀k,k<W.heap.size->(W.alloc (.cells (ji (io [] t)).toArray 9)).heap[k]? =W.heap[k]? :=fun k c=>f.block k c
 obtain⟨z,x⟩:=s;refine(Lv t (yF Rd N w t d) (LA N w t) (N+7) m (N+5) W (NS l j v q p u) n hb.gw (by omega) ?_).mono ?_
 .exact⟨hb.kept j (fun k hlt _ _=>c k (by omega)) (f.mono (by omega)),⟨z,(c _ (by omega)).trans x⟩,(c _ (by omega)).trans o,TL W _,by omega,
   0,fun b=>b=N+3,Ae,aA _,by rw[dW],l.kept 0 _ Ae W _ h0 (fun k _ hlt=>c k hlt) f.size,by omega⟩
 .rintro e i (⟨rfl,g,r⟩|⟨a,rfl,h⟩)
  .exact⟨g,r⟩
  .exact h
section
attribute [local go_sem] Oper.semAt_some
def ye(w:World)(r:PP)(e:Ending)(w':World):Prop:=∃f v s k,e=.returned (.tuple #[jG r.x f v s k,r.line,r.e])/\iP (fun b=>b<w'.heap.size) w' r.x f v s k/\Below w w w'
def rF{fn:Func}{p q u:Tmp}{tmps:Array Value}{w:World}{b g2 c:Nat}{x:gR}{f v s k:iJ}{n e:Int}(h:fn.results=#[.cell p 37,.cell q 3,.cell u 44])
 (g:tmps.getD p undef=.pointer (J b))(i:tmps.getD q undef=.pointer (J g2))(j:tmps.getD u undef=.pointer (J c))(h1:kr w b 37 x f v s k)
 (h2:w.heap[g2]? =some (.cells #[n] 3 (0,0)))(h3:w.heap[c]? =some (.cells #[e] 44 (0,0))):
 (results fn tmps).run prog w=.ok (.tuple #[jG x f v s k,n,e]) w:=by
 have d:(results fn tmps).run prog w=((asAddr (tmps.getD p undef)).run prog w).andThen fun a m=>((loadVar 37 a).run prog m).andThen fun v o=>((asAddr (tmps.getD q undef)).run prog o).andThen fun a2 r=>((loadVar 3 a2).run prog r).andThen fun v2 t=>((asAddr (tmps.getD u undef)).run prog t).andThen fun a3 y=>((loadVar 44 a3).run prog y).andThen fun l z=>.ok (.tuple #[v,v2,l]) z:=by
  simp only[results,h];simp[bR,Result.andThen]
 rw[d,g,i,j];simp only[asAddr,cT,bU];rw[run_loadVar_row w b 37 37 _ (0,0) _ h1 underlying37 rfl Tryz.infoLens];simp only[bU];have c2:w.cell? (J g2)=some (.int .i64 n):=VV h2 0;have c3:w.cell? (J c)=some (.int .i64 e):=VV h3 0;go_simp;rfl
def FE{b:FuncId}{P:Program}{c:Code}{Q:Exit->Act->World->Prop}{a:Act}{w:World}(F:World->Prop)(d:F w)(h:∀w',F w'->JO b P c Q a w'):JO b P c Q a w:=h w d
def iC{W:World}{o:Obj}{k:Nat}(a:k<W.heap.size):(W.alloc o).heap[k]? =W.heap[k]? :=((TH W W).alloc (ag _) o).block k a
def ku{W:World}{o:Obj}{M:Nat}(a:W.heap.size=M):(W.alloc o).heap[M]? =some o:=by rw[<- a];exact World.alloc_heap_new W o
structure RD (N:Nat) (w W:World):Prop where
 len:kr W N 37 lz ij ij ij ij
 lin:W.heap[N+1]? =some (.cells #[oZ] 3 (0,0))
 err:W.heap[N+2]? =some (.cells #[oZ] 44 (0,0))
 sz:W.heap.size=N+3
 bel:Below N w W
def PU(w:World)(N:Nat)(a:w.heap.size=N):RD N w (((w.alloc (.cells (iw lz ij ij ij ij).toArray 37)).alloc (.cells #[oZ] 3)).alloc (.cells #[oZ] 44)):=by
 have s1:(w.alloc (.cells (iw lz ij ij ij ij).toArray 37)).heap.size=N+1:=by simp[a]
 have s2:((w.alloc (.cells (iw lz ij ij ij ij).toArray 37)).alloc (.cells #[oZ] 3)).heap.size=N+2:=by simp[a]
 exact⟨(iC (by omega)).trans ((iC (by omega)).trans (ku a)),(iC (by omega)).trans (ku s1),ku s2,by simp[a],(((TH N w).alloc (by omega) _).alloc (by omega) _).alloc (by omega) _⟩
structure RE (N:Nat) (w W:World):Prop where
 len:kr W N 37 lz ij ij ij ij
 lin:W.heap[N+1]? =some (.cells #[oZ] 3 (0,0))
 err:W.heap[N+2]? =some (.cells #[oZ] 44 (0,0))
 rdr:nx W (N+3) Ae ij ij ij ij (.map none)
 ptr:W.heap[N+4]? =some (.cells #[U (N+3)] 161 (0,0))
 sz:W.heap.size=N+5
 bel:Below N w W
def PV{w W:World}{N:Nat}(h:RD N w W):RE N w ((W.alloc (.cells (yN Ae ij ij ij ij (.map none)).toArray 164)).alloc (.cells #[U (N+3)] 161)):=by
 have a:=h.sz
 have s1:(W.alloc (.cells (yN Ae ij ij ij ij (.map none)).toArray 164)).heap.size=N+4:=by simp[a]
 refine⟨(iC (by omega)).trans ((iC (by omega)).trans h.len),(iC (by omega)).trans ((iC (by omega)).trans h.lin),(iC (by omega)).trans ((iC (by omega)).trans h.err),
  (iC (by omega)).trans (ku a),ku s1,by simp[a],(h.bel.alloc (by omega) _).alloc (by omega) _⟩
structure PW (N:Nat) (t:List UInt8) (w W:World):Prop where
 len:kr W N 37 lz ij ij ij ij
 lin:W.heap[N+1]? =some (.cells #[oZ] 3 (0,0))
 err:W.heap[N+2]? =some (.cells #[oZ] 44 (0,0))
 rdr:nx W (N+3) Ae ij ij ij ij (.map none)
 ptr:W.heap[N+4]? =some (.cells #[U (N+3)] 161 (0,0))
 txt:W.heap[N+5]? =some (.cells #[.string (bs t)] 9 (0,0))
 sz:W.heap.size=N+6
 bel:Below N w W
def PX{w W:World}{N:Nat}(t:List UInt8)(h:RE N w W):PW N t w (W.alloc (.cells #[.string (bs t)] 9)):=by
 have a:=h.sz;exact⟨(iC (by omega)).trans h.len,(iC (by omega)).trans h.lin,(iC (by omega)).trans h.err,(iC (by omega)).trans h.rdr,(iC (by omega)).trans h.ptr,ku a,by simp[a],h.bel.alloc (by omega) _⟩
def PY{w W:World}{N:Nat}{t:List UInt8}(h:PW N t w W)(f:GW w)(e:TW N w)(d:w.heap.size=N)(a:Loop):
 tl N w ((W.alloc (.deferred (some []))).alloc (.loop a))/\(∃z:Int,((W.alloc (.deferred (some []))).alloc (.loop a)).heap[N+1]? =some (.cells #[z] 3 (0,0)))/\((W.alloc (.deferred (some []))).alloc (.loop a)).heap[N+7]? =some (.loop a)/\
  ((W.alloc (.deferred (some []))).alloc (.loop a)).cell? (J (N+5))=some (.string (bs t))/\nx ((W.alloc (.deferred (some []))).alloc (.loop a)) (N+3) Ae ij ij ij ij (.map none)/\((W.alloc (.deferred (some []))).alloc (.loop a)).heap.size=N+8:=by
 have c:=h.sz
 have s1:(W.alloc (.deferred (some []))).heap.size=N+7:=by simp[c]
 have b:∀k,k<N+6->((W.alloc (.deferred (some []))).alloc (.loop a)).heap[k]? =W.heap[k]? :=fun k b=>(iC (by omega)).trans (iC (by omega))
 have hb:Below N w ((W.alloc (.deferred (some []))).alloc (.loop a)):=(h.bel.alloc (by omega) _).alloc (by omega) _
 exact⟨⟨(b _ (by omega)).trans h.len,(b _ (by omega)).trans h.err,(b _ (by omega)).trans h.ptr,(iC (by omega)).trans (ku c),hb,f.below (by rw[d];exact hb),e.below hb,by simp[c]⟩,
  ⟨0,(b _ (by omega)).trans h.lin⟩,ku s1,VV ((b _ (by omega)).trans h.txt) 0,(b _ (by omega)).trans h.rdr,by simp[c]⟩
def FF{Rd:Nat->(Nat->Prop)->jL->World->Prop}{N m:Nat}{w W:World}{t:List UInt8}{j:Array Tmp}{assign body:Code}{k:Operand}{a:Act}{Q:Exit->Act->World->Prop}(B:vD (N+8) (N+3) Rd)
 (h0:∀W,nx W (N+3) Ae ij ij ij ij (.map none)->Rd 0 (fun b=>b=N+3) Ae W)(D:GW w)(p:TW N w)(A:w.heap.size=N)(E:t.length<=20000)(n:PW N t w W)
 (C:a.eval k=.func (.func 117) #[] #[U (N+5)])
 (i:DG N m {state:=.ready,pending:=none,fn:=46,tmps:=a.tmps,params:=j,assign:=assign,body:=body,defers:=N+6})
 (hdone:∀gl g,yF Rd N w t {state:=.ready,pending:=none,fn:=46,tmps:=a.tmps,params:=j,assign:=assign,body:=body,defers:=N+6} gl (io [] t).length g->
   Q .normal {a with defers:={target:=.collected (N+6),args:=#[]}::a.defers} (g.putObj (N+7) (.loop {state:=.exhausted,pending:=none,fn:=46,tmps:=a.tmps,params:=j,assign:=assign,body:=body,defers:=N+6})))
 (hbad:∀c g,LA N w t c g->Q (.panic c) {a with defers:={target:=.collected (N+6),args:=#[]}::a.defers} g):
 JO 46 prog (.rangeFunc k j assign body) Q a W:=by
 obtain⟨r,s,u,x,y,z⟩:=PY n D p A {state:=.ready,pending:=none,fn:=46,tmps:=a.tmps,params:=j,assign:=assign,body:=body,defers:=N+6};have o:=run_enterLoop_outer (P:=prog) (w:=W) 46 a.tmps j assign body;rw[n.sz]at o
 refine Lz (l:=N+7) (w₁':=(W.alloc (.deferred (some []))).alloc (.loop {state:=.ready,pending:=none,fn:=46,tmps:=a.tmps,params:=j,assign:=assign,body:=body,defers:=N+6})) (d:={target:=.fn (.func 117) #[U (N+5)],args:=#[.func (.yield (N+7)) #[] #[]]}) (f:=117) (args:=#[.func (.yield (N+7)) #[] #[],U (N+5)]) o ?_ ?_
  ((FD B (p.glo) E rfl rfl i z r s u x (h0 _ y)).mono ?_)
 .have q:resolve a.eval (rangeCall k (N+7)) 0=Deferred.ofValue (a.eval k) #[.func (.yield (N+7)) #[] #[]]:=by unfold resolve;simp[Act.eval]
  rw[q,C];rfl
 .simp[go_sem]
 .intro e g h
  cases e with
  |returned v=>
   obtain⟨gl,hgl⟩:=h;exact⟨_,run_endLoop hgl.loop (by simp),hdone gl g hgl⟩
  |panicked c=>exact hbad c g h
  |outgrown=>exact h
def NT(t:List UInt8)(w:World):Calls prog 79 #[.string (bs t)] w fun e w'=>e=.returned (.func (.func 117) #[] #[U (w.heap.size)])/\w'=w.alloc (.cells #[.string (bs t)] 9):=by
 go_enter func79,ntmps79;go_wp2;go_ret;exact⟨rfl,rfl⟩
def rG{F:Fence}{n:Nat}{P:Program}{f:FuncId}{args:Array Value}{u:FrameMode}{w:World}{R d:Ending->FrameMode->World->Prop}(h:CallsDIn F n P f args u w R)(i:∀e b w',R e b w'->d e b w'):CallsDIn F n P f args u w d:=
 ⟨h.1,fun c cs g a=>let⟨e,b,w',fr,hR,hs⟩:=h.2 c cs g a;⟨e,b,w',fr,i _ _ _ hR,hs⟩⟩
def pj{F:Fence}{n:Nat}{P:Program}{fn:Func}{tmps a:Array Value}{R:Ending->World->Prop}(h:∀w,(results fn tmps).run P w=(results fn a).run P w):∀(ds:List Deferred)(u:FrameMode)(w:World),LeavesInM F n P fn tmps R ds u w->LeavesInM F n P fn a R ds u w
 |[],u,w,hl=>by
  cases u with
  |run=>exact hl
  |returning=>obtain⟨v,h1,h2⟩:=hl;exact⟨v,(h w).symm.trans h1,h2⟩
  |panicking c=>exact hl
 |d::ds,u,w,hl=>by
  obtain⟨h1,h2⟩:=hl;refine⟨h1,?_⟩
  obtain ⟨r,w',g,i,j⟩|⟨l,k,cap,f,args,g,i,j,m⟩:=h2
  .exact VR ⟨r,w',g,i,pj h ds u w' j⟩
  .refine VS ⟨l,k,cap,f,args,g,i,j,rG m ?_⟩
   intro e o w' b
   cases e with
   |returned v=>exact pj h ds _ w' b
   |panicked chain=>exact pj h ds _ w' b
   |outgrown=>exact b
def As(tmps:Array Value)(d j:Nat)(v:Value)(h:j≠d):(tmps.setIfInBounds d v).getD j undef=tmps.getD j undef:=by
 rw[eD,eD,fD (fu h)]
def yg(tmps:Array Value)(w:World):(results Tryz.f46 tmps).run prog w=((asAddr (tmps.getD 2 undef)).run prog w).andThen fun a c=>((loadVar 37 a).run prog c).andThen fun v d=>((asAddr (tmps.getD 3 undef)).run prog d).andThen fun a2 e=>((loadVar 3 a2).run prog e).andThen fun v2 f=>((asAddr (tmps.getD 4 undef)).run prog f).andThen fun a3 g=>((loadVar 44 a3).run prog g).andThen fun b h=>.ok (.tuple #[v,v2,b]) h:=by
 simp only[results,results46];simp[bR,Result.andThen]
def FG(d:Nat)(a:5<=d)(tmps:Array Value)(v:Value)(w:World):(results Tryz.f46 (tmps.setIfInBounds d v)).run prog w=(results Tryz.f46 tmps).run prog w:=by
 rw[yg,yg,As tmps d 2 v (by omega),As tmps d 3 v (by omega),As tmps d 4 v (by omega)]
def LD{d:Nat}(b:5<=d){R:Ending->World->Prop}{ch:List PanicEntry}{K:Act->World->Prop}{a:Act}{w:World}{v:Value}(h:Exit.then K (bodyPostM Fence.wide 0 prog Tryz.f46 R) (.panic ch) (a.put (some d) v) w):Exit.then K (bodyPostM Fence.wide 0 prog Tryz.f46 R) (.panic ch) a w:=
 pj (FG d b a.tmps v) a.defers _ w h
def ud:∀(l w:List UInt8),(io w l).length=l.count 10+1
 |[],w=>rfl
 |b::l,w=>by
  rw[io,List.count_cons];cases h:(b==10)
  .rw[aj (by simp),aj (by simp),ud l _]
  .rw[aq rfl,aq rfl,aH,ud l []]
def LE(l:List UInt8)(w:World):Calls prog 81 #[.string (bs l),.string {data:=#[10]}] w fun e w'=>e=.returned (.int .i64 ((l.count 10:Nat):Int))/\w=w':=by
 refine(Tryz.strings_Count_one (bs l) 10 w).mono ?_;rintro e w' ⟨rfl,rfl⟩;exact⟨rfl,rfl⟩
def DH(S:Nat->Prop)(w:World):iP S w lz ij ij ij ij:=
 ⟨IRp.nil _ _ _ _ _,IRp.nil _ _ _ _ _,RR.nil _ _ _ _ _ _,RR.nil _ _ _ _ _ _,by decide,by decide,by decide,by decide,fun _=>rfl,fun _=>rfl,by decide⟩
def FH{t:List UInt8}{n:Nat}(a:¬20000<t.length)(h:lR 0 Ae (io [] t)=.error n):nr t=⟨lz,(n:Int),5⟩:=by
 unfold nr;rw[aj a,h];rfl
def Ct{N:Nat}{w W:World}{t:List UInt8}{a:List PanicEntry}{tmps:Array Value}{n:Int}(p:w.heap.size=N)(d:a=[{v:=.iface 160 (.agg #[]),recovered:=false}])(hbs:tl N w W)(hrs:nr t=⟨lz,n,5⟩)
 (hline:W.heap[N+1]? =some (.cells #[n] 3 (0,0)))(h2:tmps.getD 2 undef=.pointer (J N))(h3:tmps.getD 3 undef=.pointer (J (N+1)))(h4:tmps.getD 4 undef=.pointer (J (N+2))):
 LeavesInM Fence.wide 0 prog Tryz.f46 tmps (ye w (nr t)) [{target:=.collected (N+6),args:=#[]},{target:=.fn (.func 78) #[U N,U (N+2)],args:=#[]}] (.panicking a) W:=by
 have b:∀k,k≠N+6->(W.putObj (N+6) (.deferred none)).heap[k]? =W.heap[k]? :=fun k b=>World.putObj_heap_other b
 have c:=ox (o:=.deferred none) hbs.bel (show N<=N+6 by omega);have q:=hbs.sz
 have i:(W.putObj (N+6) (.deferred none)).heap.size=W.heap.size:=by simp
 rw[d,hrs];refine⟨by simp,VR ⟨N+6,_,rfl,run_takeDeferred hbs.dfr,?_⟩⟩;refine⟨by simp,VS ⟨fun h=>(by cases h),.func 78,_,78,#[U N,U (N+2)],rfl,by simp[go_sem],fun _ _=>trivial,?_⟩⟩;refine rG (xp N (N+2) (by omega) [] _ _ ((b N (by omega)).trans hbs.len) rfl ((b (N+2) (by omega)).trans hbs.err)) ?_;rintro e r g ⟨rfl,rfl,h5,j,l,m⟩;have f:g.heap[N+1]? =some (.cells #[n] 3 (0,0)):=(l (N+1) (by omega) (by omega) (by omega)).trans ((b (N+1) (by omega)).trans hline)
 show LeavesIn Fence.wide 0 prog Tryz.f46 tmps _ [] (settle _) g
 simp only[LeavesIn,settle,List.dropWhile_nil];exact⟨_,rF rfl h2 h3 h4 h5 f j,ij,ij,ij,ij,rfl,DH _ _,by rw[p];exact c.trans (m.mono (by omega))⟩
def LF{N:Nat}{w W:World}{t:List UInt8}{a:List PanicEntry}{tmps:Array Value}(d:w.heap.size=N)(e:¬20000<t.length)(hb:LA N w t a W)(h2:tmps.getD 2 undef=.pointer (J N))(h3:tmps.getD 3 undef=.pointer (J (N+1)))(c:tmps.getD 4 undef=.pointer (J (N+2))):
 LeavesInM Fence.wide 0 prog Tryz.f46 tmps (ye w (nr t)) [{target:=.collected (N+6),args:=#[]},{target:=.fn (.func 78) #[U N,U (N+2)],args:=#[]}] (.panicking a) W:=by
 obtain⟨n,f,b⟩:=hb.no;exact Ct d hb.ch hb.base (FH e f) b h2 h3 c
def Cu{N:Nat}{w W:World}{q:PP}{tmps:Array Value}{f v s k:iJ}(i:w.heap.size=N)(j:W.heap[N+6]? =some (.deferred (some [])))(l:kr W N 37 q.x f v s k)(c:W.heap[N+1]? =some (.cells #[q.line] 3 (0,0)))
 (d:W.heap[N+2]? =some (.cells #[q.e] 44 (0,0)))(m:iP (fun b=>b<W.heap.size/\b≠N+6) W q.x f v s k)(hb:Below N w W)(h2:tmps.getD 2 undef=.pointer (J N))(h3:tmps.getD 3 undef=.pointer (J (N+1)))(g:tmps.getD 4 undef=.pointer (J (N+2))):
 LeavesInM Fence.wide 0 prog Tryz.f46 tmps (ye w q) [{target:=.collected (N+6),args:=#[]},{target:=.fn (.func 78) #[U N,U (N+2)],args:=#[]}] .returning W:=by
 have a:∀k,k≠N+6->(W.putObj (N+6) (.deferred none)).heap[k]? =W.heap[k]? :=fun k a=>World.putObj_heap_other a
 refine⟨by simp,VR ⟨N+6,_,rfl,run_takeDeferred j,?_⟩⟩;refine⟨by simp,VS ⟨fun h=>(by cases h),.func 78,_,78,#[U N,U (N+2)],rfl,by simp[go_sem],fun _ _=>trivial,?_⟩⟩;refine rG (Fx (J N) (J (N+2)) _ _) ?_;rintro e n o ⟨rfl,rfl,rfl⟩
 show LeavesIn Fence.wide 0 prog Tryz.f46 tmps _ [] (settle _) _
 simp only[LeavesIn,settle];exact⟨_,rF rfl h2 h3 g ((a N (by omega)).trans l) ((a (N+1) (by omega)).trans c) ((a (N+2) (by omega)).trans d),f,v,s,k,rfl,m.kept (fun b hb=>a b hb.2) (fun b hb=>by simpa using hb.1),by rw[i];exact ox hb (by omega)⟩
def FI{N:Nat}{w c d:World}{x:gR}{f v s k:iJ}{n e q:Int}(h:tl N w c)(m:kr d N 37 x f v s k)(j:d=c.setCells N 0 (iw x f v s k))(o:c.heap[N+1]? =some (.cells #[q] 3 (0,0))):
 let a:=(d.setCell (J (N+1)) (.int .i64 n)).setCell (J (N+2)) (.int .i64 e)
 a.heap[N+6]? =some (.deferred (some []))/\kr a N 37 x f v s k/\a.heap[N+1]? =some (.cells #[n] 3 (0,0))/\a.heap[N+2]? =some (.cells #[e] 44 (0,0))/\(∀b,N+8<=b->a.heap[b]? =c.heap[b]?)/\a.heap.size=c.heap.size/\Below N w a:=by
 intro a
 have g:∀b,b≠N->d.heap[b]? =c.heap[b]? :=fun b hb=>by rw[j];exact gK N _ 0 c b hb
 have i:∀b,b≠N+1->b≠N+2->a.heap[b]? =d.heap[b]? :=fun b h1 h2=>(TI _ _ _ _ (fun e=>h2 e)).trans (TI _ _ _ _ (fun e=>h1 e))
 have l:Below N w d:=by rw[j];exact ig (b:=N) (ag _) _ _ h.bel
 refine⟨(i _ (by omega) (by omega)).trans ((g _ (by omega)).trans h.dfr),(i _ (by omega) (by omega)).trans m,?_,?_,fun b hb=>(i b (by omega) (by omega)).trans (g b (by omega)),?_,(l.setCell (p:=J (N+1)) (by show N<=N+1;omega) _).setCell (p:=J (N+2)) (by show N<=N+2;omega) _⟩
 .exact(TI _ _ _ _ (fun e=>by have:N+1=N+2:=e;omega)).trans (gG ((g _ (by omega)).trans o) 0 _)
 .exact gG ((TI _ _ _ _ (fun e=>by have:N+2=N+1:=e;omega)).trans ((g _ (by omega)).trans h.err)) 0 _
 .show((d.setCell _ _).setCell _ _).heap.size=_
  rw[j];simp[im]
def NU{t:List UInt8}{r:jL}(a:¬20000<t.length)(h:lR 0 Ae (io [] t)=lR (io [] t).length r []):nr t=if r.at_≠9 then⟨lz,((io [] t).length:Int),5⟩else if iI r.x=true then⟨r.x,0,0⟩else⟨lz,0,120⟩:=by
 unfold nr;rw[aj a,h,lR];rfl
def tn{ops:Array Oper}{a:List Oper}{b:Oper}{c:Act}{w:World}{Q:Exit->Act->World->Prop}{g:Nat}{r:jL}{f v s k:iJ}{m:Value}(y:Operand)(n:b.op=.load 37 y)(d:b.guard=none)(o:c.eval y=.pointer (J g))(h:nx w g r f v s k m)
 (l:wpList prog ops Q a (c.put b.dst (jG r.x f v s k)) w):wpList prog ops Q (b::a) c w:=
 wpList_load_mid d 37 y n g 0 o (iw r.x f v s k) _ (fun j u e=>by
  have i:j<9:=(TG.1 e).1
  rw[aV,VV h j,bo,yN,aF i];exact e) underlying37 rfl Tryz.infoLens l
def LH{Rd:Nat->(Nat->Prop)->jL->World->Prop}(t:List UInt8)(w:World)(hS:vD (w+8) (w+3) Rd)
 (h0:∀W,nx W (w+3) Ae ij ij ij ij (.map none)->Rd 0 (fun b=>b=w.heap.size+3) Ae W)(hg:GW w)(hT:TW w w)(hP:jY w w)(ht:t.length<=100000):
 Calls prog 46 #[.string (bs t)] w (ye w (nr t)):=by
 by_cases u:20000<t.length
 .have a2:(20000:Int) <(t.length:Int):=by omega
  have g:nr t=⟨lz,0,3⟩:=by unfold nr;rw[aq u];rfl
  have e3:=O g
  have s1:(w.alloc (.cells (iw lz ij ij ij ij).toArray 37)).heap.size=w.heap.size+1:=by simp
  have s2:((w.alloc (.cells (iw lz ij ij ij ij).toArray 37)).alloc (.cells #[oZ] 3)).heap.size=w.heap.size+1+1:=by simp
  have k1:kr (((w.alloc (.cells (iw lz ij ij ij ij).toArray 37)).alloc (.cells #[oZ] 3)).alloc (.cells #[.int .i64 3] 44)) w 37 lz ij ij ij ij:=(iC (by omega)).trans ((iC (by omega)).trans (ku rfl));have k2:(((w.alloc (.cells (iw lz ij ij ij ij).toArray 37)).alloc (.cells #[oZ] 3)).alloc (.cells #[.int .i64 3] 44)).heap[w.heap.size+1]? =some (.cells #[oZ] 3 (0,0)):=(iC (by omega)).trans (ku s1);have k3:(((w.alloc (.cells (iw lz ij ij ij ij).toArray 37)).alloc (.cells #[oZ] 3)).alloc (.cells #[.int .i64 3] 44)).heap[w.heap.size+1+1]? =some (.cells #[.int .i64 3] 44 (0,0)):=ku s2;have K4:=O (show Below w w (((w.alloc (.cells (iw lz ij ij ij ij).toArray 37)).alloc (.cells #[oZ] 3)).alloc (.cells #[.int .i64 3] 44))from(((TH _ w).alloc (ag _) _).alloc (by omega) _).alloc (by omega) _);have K1:=O k1;have K2:=O k2;have K3:=O k3;clear hS h0 hg hT hP g u s1 s2 k1 k2 k3;go_enter func46,ntmps46;go_wp2_with fail;refine ar (rF rfl rfl rfl rfl K1 K2 K3) rfl ?_;rw[e3];exact⟨ij,ij,ij,ij,rfl,DH _ _,K4⟩
 .have a2:¬(20000:Int) <(t.length:Int):=by omega
  have HS:=O hS;have H0:=O h0;have Hg:=O hg;have HT:=O hT;have HP:=O hP;clear hS h0 hg hT hP;refine DE func46 rfl ?_;simp only[ntmps46,List.size_toArray,aH,cI,Nat.reduceAdd,Nat.reduceSub,Array.replicate_succ,Array.replicate_zero,List.push_toArray,List.append_toArray,bD,bF];obtain⟨N,F⟩:∃N,w.heap.size=N:=⟨_,rfl⟩;rw[F]at HS H0 HT HP;have hN:=HT.glo;refine oW (fun K0 f7=>?_);go_wp2_with fail;refine FE (RD N w) (PU w N F) (fun w1 h1=>?_)
  try rw[F]
  have b2:=O h1;clear h1;refine oW (fun K1 f8=>?_);go_wp2_with fail;refine oW (fun K2 f9=>?_);go_wp2_with fail;refine oW (fun K3 g0=>?_);have b9:=b2.sz;go_wp2_with fail;refine FE (RE N w) (PV b2) (fun w2 h2=>?_);have b3:=O h2;clear h2 b2 b9;refine JP ?_;refine oW (fun K5 g1=>?_);have a6:=b3.sz;go_wp2_with fail;refine(NT t w2).mono ?_;rintro e w3 ⟨rfl,rfl⟩;go_wp2_with fail
  try rw[a6]
  refine FE (PW N t w) (PX t b3) (fun w3 h3=>?_);have c7:=O h3;clear h3 b3 a6;have f4:=c7.sz;refine Lw ?_;refine FF (m:=5) HS H0 Hg HT F (by omega) c7 rfl ?round ?done ?bad
  case round=>
   intro i A n W R a5 e6 e1 hi E;obtain⟨z,hz⟩:=e6;refine⟨_,_,_,_,run_yield a5 rfl,?_⟩;refine DD func46 trivial ?_;simp only[List.zip_toArray,List.zip_cons_cons,List.zip_nil_left,List.zip_nil_right,List.foldl_toArray,List.foldl_cons,List.foldl_nil,bK,aW,aZ]
   gi_wp2
   refine⟨_,run_beginRound a5 rfl,?_⟩;have g4:=TK a5
   have b6:∀o,(W.putObj (N+7) o).heap[N+1]? =some (.cells #[z] 3 (0,0)):=fun o=>(World.putObj_heap_other (by omega)).trans hz
   have c0:=fun o=>VV (b6 o) 0
   have f0:=fun o=>gD (b6 o) 0
   have e0:∀o,((W.putObj (N+7) o).setCell (J (N+1)) (.int .i64 ((i:Int)+1))).heap[N+3+1]? =some (.cells #[U (N+3)] 161 (0,0)):=
    fun o=>(TI _ _ _ _ (fun e=>by have:N+3+1=N+1:=e;omega)).trans ((World.putObj_heap_other (by omega)).trans e1)
   have c1:=fun o=>VV (e0 o) 0
   unfold ow at E;have S:=O E;clear E a5 b6 e0 hz e1
   gi_wp2
   refine⟨trivial,CallsIn.mono (CallsIn.inRound (N+7) (callsIn_wide.2 S)) ?_⟩;intro e W2 h;clear S c0 f0 c1
   cases e with
   |returned v=>
    obtain⟨e4:HQ _,H2:HQ _⟩:=h
    gi_wp2
    refine⟨_,_,run_endRound none e4,?_⟩;exact H2
   |panicked a8=>
    have H:=O h;clear h
    gi_wp2
    exact⟨rfl,H⟩
   |outgrown=>exact h.elim
  case done=>
   intro gl W3 hi;obtain⟨c,D,r,h1,h2,h3,h4⟩:=hi.rd;rw[List.drop_of_length_le (ag _)]at h2;obtain⟨f,v,s,k,m,h5,h6⟩:=HS.lens c D r W3 h3;obtain⟨z,hz⟩:=hi.line
   show JO 46 _ _ _ _ _
   have g6:=hi.base.sz
   have hk:∀k,k≠N+7-> ∀o,(W3.putObj (N+7) o).heap[k]? =W3.heap[k]? :=fun k hk o=>World.putObj_heap_other hk
   refine FE (fun W=>(∀k,k≠N+7->W.heap[k]? =W3.heap[k]?)/\W.heap.size=W3.heap.size/\Below N W3 W) ⟨fun k h=>hk k h _,by simp,ox (TH N W3) (by omega)⟩ ?_;rintro Q ⟨q1,q2,q3⟩;have d2:=hi.base.kept (W':=Q) hN (fun k hlt _ _=>q1 k (by omega)) q3;have a7:=(q1 (N+1) (by omega)).trans hz;have d1:iP (fun b=>N+8<=b/\b<Q.heap.size) Q r.x f v s k:=h6.kept (fun b hb=>q1 b (by have:=hb.1;omega)) (fun b hb=>⟨hb.1,by rw[q2];exact hb.2⟩);have c6:=O d1;have c4:=O (show nx Q (N+3) r f v s k m from(q1 (N+3) (by omega)).trans h5);have c8:=O d2;have H2:=O h2;have d0:=O a7;have c3:=VV a7 0;have f3:=gD a7 0;clear hk q1 q3 d2 h2 a7 h1 h3 h4 h5 hz hi h6 d1;refine oW (fun K9 g2=>?_);go_wp2_with fail;refine(LE t Q).mono ?_;rintro e w5 ⟨rfl,rfl⟩;have e5:=ud t []
   have g3:t.count 10<=20000:=by have:=List.count_le_length (a:=10) (l:=t);omega
   generalize hC:t.count 10=C at*;go_wp2_with fail;refine FE (fun W=>tl N w W/\W.heap[N+1]? =some (.cells #[.int .i64 ((C:Int)+1)] 3 (0,0))/\nx W (N+3) r f v s k m/\(∀b,b≠N+1->W.heap[b]? =Q.heap[b]?)/\Q.heap.size=W.heap.size) ?_ ?_
   .have hk:∀b,b≠N+1->(Q.setCell (J (N+1)) (.int .i64 ((C:Int)+1))).heap[b]? =Q.heap[b]? :=fun b hb=>TI _ _ _ _ (fun e=>hb e)
    exact⟨c8.kept hN (fun b _ _ h=>hk b h) ((TH N Q).setCell (p:=J (N+1)) (by show N<=N+1;omega) _),gG d0 0 _,(hk _ (by omega)).trans c4,hk,by simp⟩
   rintro M ⟨G1:HQ _,G2:HQ _,G3:HQ _,G4:HQ _,g5⟩;have c5:=VV G1.ptr 0;have c9:M.cell? ⟨N+3,9,none⟩=some (.int .i64 r.at_):=VV G3 9;obtain⟨oa,on,oc,o1,O2:HQ _⟩:=G1.tw.ord
   have e7:on=10:=by rw[<- O2.1];rfl
   subst e7;clear c3 f3 c8 c4 d0;refine oW (fun f6 e9=>?_);have b4:Below M M M.drew:=⟨rfl,rfl,rfl,ag _,fun _ _=>rfl⟩;have d8:=oV c9;have d9:=oV c5;have d7:=oV o1;refine gS 8 [(0,true),(1,true),(2,true),(3,true),(4,true),(5,true),(6,true),(7,true)] (by kernel_rfl) (by kernel_rfl) ?_
   iterate 8
    refine gU (v:=?_) ?_ ?_ rfl (fun _ _ _ h=>LD (by decide) h);rotate_left
    .intro x hx
     have b5:=b4.trans (hx.mono (by simp));have z1:=(b5.cell (p:=J (N+4)) d9).trans c5;have z2:=(b5.cell (p:=⟨N+3,9,none⟩) d8).trans c9;have z3:=(b5.cell (p:=J 3) d7).trans o1;go_simp;with_reducible rfl
    try simp only[V]
   refine iu rfl ?_;have d3:tl N w M.drew:=G1.kept hN (fun b _ _ _=>rfl) (b4.mono (by have:=G1.sz;omega));have d4:M.drew.heap[N+1]? =some (.cells #[.int .i64 ((C:Int)+1)] 3 (0,0)):=G2.out;have d5:nx M.drew (N+3) r f v s k m:=G3.out;have d6:iP (fun b=>N+8<=b/\b<M.drew.heap.size) M.drew r.x f v s k:=c6.kept (fun b hb=>G4 b (by have:=hb.1;omega)) (fun b hb=>⟨hb.1,by show b<M.heap.size;rw[<- g5];exact hb.2⟩);have j:=O (NU u H2);have L:=O d3;have a9:=O d4;have b0:=O d5;have b1:=O d6;clear d3 d4 d5 d6 d8 d9 d7 G1 G2 G3 G4 O2 c6 H2 c5 c9 o1 b4 g5;generalize M.drew=W6 at*;by_cases h9:r.at_=9
   .have a3:(r.at_==9)=true:=dz.2 h9
    have g:=j.out;rw[aj (by simp[h9])]at g;clear h9 j;have j:=O g;clear g;go_wp2_with fail;rw[a3];refine(kW W6).mono ?_;rintro e w7 ⟨rfl,rfl⟩;go_wp2_with fail;clear a3;refine Cs ?_;have c5:=VV L.ptr 0
    go_wp2_with(refine tn (.tmp 38) rfl rfl rfl b0 ?_)
    refine(YN r.x f v s k W6 (b1.kept (fun _ _=>rfl) (fun b hb=>hb.2)) ((HP.below L.bel).mono (by have:=L.sz;omega))).mono ?_;rintro e w7 ⟨rfl,P⟩;have f5:=L.sz;have a1:tl N w w7:=L.kept hN (fun b hlt _ _=>P.block b (by omega)) (P.mono (by omega));have a4:=(P.block (N+1) (by omega)).trans a9;have b7:=O (show nx w7 (N+3) r f v s k m from(P.block (N+3) (by omega)).trans b0);have b8:=O (show iP (fun b=>N+8<=b/\b<w7.heap.size) w7 r.x f v s k from b1.kept (fun b hb=>P.block b hb.2) (fun b hb=>⟨hb.1,eb hb.2 P.size⟩));clear c5;have B:=O a1;have X:=O a4;have c5:=VV a1.ptr 0;clear a1 a4 P L a9 b0 b1
    have T:∀(q:PP)(f v s k:iJ)(y:World),kr y N 37 q.x f v s k->y=w7.setCells N 0 (iw q.x f v s k)->(y.heap[N+1]? =some (.cells #[.int .i64 ((C:Int)+1)] 3 (0,0))/\y.heap[N+2]? =some (.cells #[oZ] 44 (0,0))):=fun q f v s k y _ e8=>by
     rw[e8];exact⟨(gK N _ 0 w7 (N+1) (by omega)).trans X,(gK N _ 0 w7 (N+2) (by omega)).trans B.err⟩
    have d:=O T;clear T;by_cases hv:iI r.x=true
    .have g:=j.out
     rw[aq hv]at g;rw[hv];have a0:=O g;clear g j hv;unfold err
     go_wp2_with(first
      |(refine tn (.tmp 47) rfl rfl rfl b7 ?_)
      |(refine ja r.x f v s k B.len rfl rfl (.tmp 2) (.tmp 48) rfl rfl rfl ?_;intro y (K:HQ _) (E8:HQ _);have c1:=VV (d ⟨r.x,0,0⟩ f v s k y K E8).1 0;have f1:=gD (d ⟨r.x,0,0⟩ f v s k y K E8).1 0;have c2:=VV (d ⟨r.x,0,0⟩ f v s k y K E8).2 0;have f2:=gD (d ⟨r.x,0,0⟩ f v s k y K E8).2 0))
     obtain⟨k1,k2,k3,k4,k5,k6,k7⟩:=FI (n:=0) (e:=0) B K E8 X;rw[a0];exact Cu (q:=⟨r.x,0,0⟩) F k1 k2 k3 k4 (b8.kept (fun b hb=>k5 b hb.1) (fun b hb=>⟨by rw[k6];exact hb.2,by have:=hb.1;omega⟩)) k7 rfl rfl rfl
    .have g:=j.out
     rw[aj hv]at g
     have e2:iI r.x=false:=by simpa using hv
     rw[e2];have a0:=O g;clear g j hv e2;unfold err
     go_wp2_with(refine ja lz ij ij ij ij B.len rfl rfl (.tmp 2) (.tmp 43) rfl rfl rfl ?_;intro y (K:HQ _) (E8:HQ _);have c1:=VV (d ⟨lz,0,0⟩ ij ij ij ij y K E8).1 0;have f1:=gD (d ⟨lz,0,0⟩ ij ij ij ij y K E8).1 0;have c2:=VV (d ⟨lz,0,0⟩ ij ij ij ij y K E8).2 0;have f2:=gD (d ⟨lz,0,0⟩ ij ij ij ij y K E8).2 0)
     obtain⟨k1,k2,k3,k4,k5,k6,k7⟩:=FI (n:=0) (e:=120) B K E8 X;rw[a0];exact Cu (q:=⟨lz,0,120⟩) F k1 k2 k3 k4 (DH _ _) k7 rfl rfl rfl
   .have a3:(r.at_==9)=false:=ak.2 h9
    have g:=j.out;rw[aq h9,e5]at g;clear j;have j:=O g;clear g h9;go_wp2_with fail;rw[a3];refine(lm W6).mono ?_;rintro e w7 ⟨rfl,rfl⟩;unfold iX;go_wp2_with fail;exact Ct F rfl L j a9 rfl rfl rfl
  case bad=>
   intro a8 W3 hb;exact LF F u hb rfl rfl rfl
end
def iq{T e:TypeId}{B b:Nat}{xs:List Value}{w w':World}(h:Lib.IsBuilder T e B b xs w)(hb:Below w w w'):Lib.IsBuilder T e B b xs w':=by
 have one:∀{p:Value},Lib.BuilderAt T e B b p xs w->Lib.BuilderAt T e B b p xs w':=by
  rintro p ⟨h1,v,h2,h3,a⟩;exact⟨h1,v,(hb.block b (TK h2)).trans h2,kD h3 hb,a⟩
 exact h.imp one one
def LI(ws:List (List UInt8))(g off c:Nat)(w:World)(h:∀i x,ws[i]? =some x->w.cell? ⟨g,off+i,none⟩=some (.string (bs x)))(k:g<w.heap.size)(l:ws.length<=c)(n:ws.length<=1000000)(m:(nN ws).length<=1000000):
 Calls prog 39 #[Z (some ⟨g,off,none⟩) ws.length c,.string {data:=#[32]}] w (iZ w (.string (bs (nN ws)))):=by
 have f:(ws.map bs).map (fun b=>b.data.toList)=ws:=by rw[dD];exact fY (fun x=>rfl) ws
 have a:∀(j:Nat) x,(ws.map bs)[j]? =some x->w.cell? ⟨g,off+j,none⟩=some (.string x):=fun j x d=>by
  rw[aR]at d
  cases hw:ws[j]? with
  |none=>rw[hw]at d;cases d
  |some y=>rw[hw]at d;cases d;exact h j y hw
 have key:=Tryz.strings_Join g off c (ws.map bs) {data:=#[32]} w a k (by rw[aU];omega) (by rw[aU];omega) (by rw[f,zZ];omega);rw[aU,f,zZ]at key
 exact key.mono fun e w' h=>h
def Cv(ws:List (List UInt8))(g off c B b:Nat)(l:List UInt8)(w:World)(h:∀i x,ws[i]? =some x->w.cell? ⟨g,off+i,none⟩=some (.string (bs x)))(C:g<w.heap.size)(A:ws.length<=c)(D:ws.length<=1000000)(p:l.length+(iF ws).length<=1000000)
 (hb:Lib.IsBuilder 73 5 B b (Lib.byteCells l) w)(z:B<=w.heap.size):
 Calls prog 15 #[U b,Z (some ⟨g,off,none⟩) ws.length c] w fun e w'=>e=.returned (.tuple #[])/\Lib.IsBuilder 73 5 B b (Lib.byteCells (l++iF ws)) w'/\Below B w w'/\kY b w w':=by
 have m:(iF ws).length=(nN ws).length+1:=by unfold iF;simp
 have o:Below w w w.drew:=⟨rfl,rfl,rfl,ag _,fun _ _=>rfl⟩;go_enter func15,ntmps15;refine gS 6 [(0,true),(1,true),(2,true),(3,true),(4,false),(5,true)] (by kernel_rfl) (by kernel_rfl) ?_
 iterate 4
  refine gU (v:=?_) ?_ ?_;rotate_left
  .intro x n
   go_simp;with_reducible rfl
  try simp only[V]
 refine gP (fun y k=>?_);go_simp;refine(LI ws g off c w.drew (fun i x n=>h i x n) C A D (by omega)).mono ?_;rintro e r ⟨rfl,d⟩;refine k _ _ d ?_;clear k y;(try simp only[V]);have a:Below w w r:=o.trans d;have s:bs (nN ws)++({data:=#[10]}:ByteArray)=bs (iF ws):=oQ _ [10]
 have H:(nN ws).length<=1000000:=by omega
 have j:=iq hb a;have F:=a.size;have u:=O p;have E:=O m;clear p m h hb;generalize hJ:nN ws=Jq0 at*;generalize hS:iF ws=S at*;clear hJ hS
 have q:¬9223372036854775807<Jq0.length+1:=by omega
 refine gU (v:=?_) ?_ ?_;rotate_left
 .intro x n
  go_simp
  try rw[aj q]
  with_reducible rfl
 (try simp only[V]);refine iu rfl ?_;go_wp2_with fail;refine(Iz B b l S r j u (by omega)).mono ?_;rintro e K ⟨rfl,t:HQ _,H4:HQ _,H5:HQ _⟩;have f:=O a;clear a d j;go_wp2;go_end0;exact⟨rfl,t,(f.mono z).trans H4,(kY.below f).trans H5⟩
def Fz(B:Nat)(D:Nat->Prop)(W:World):Nat->Prop:=fun b=>B<=b/\b<W.heap.size/\ ¬D b
structure sT (B:Nat) (D:Nat->Prop) (W:World) (T:TypeId) (k:Nat) (p:iJ) (zs:List Int):Prop where
 row:W.ownsRow B T k p.v p.n (zs.map (Value.int .i64))
 inD:∀b,p.v.ownBlock=some b->D b
 pos:p.n=0->p.a=none
def SG(B:Nat)(D:Nat->Prop)(W:World)(k:Nat)(p:iJ)(zs:List Int):Prop:=IRp (Fz B D W) W k p.a p.n p.c zs/\(p.a=none->p.c=0)
def gT{W:World}{B k n:Nat}{T:TypeId}{v:Value}{xs:List Value}(h:W.ownsRow B T k v n xs){b:Nat}(hb:v.ownBlock=some b):B<=b/\b<W.heap.size:=h.lt b hb
def me{W W':World}{B k n:Nat}{T:TypeId}{v:Value}{xs:List Value}(h:W.ownsRow B T k v n xs)(c:∀b,v.ownBlock=some b->W'.heap[b]? =W.heap[b]?):W'.ownsRow B T k v n xs:=by
 obtain⟨l,r⟩:=h;refine⟨l,r.imp id ?_⟩;rintro⟨g,cap,a,e,d,f,i⟩;exact⟨g,cap,a,e,d,(c g (by rw[e];rfl)).trans f,i⟩
def ZE{W:World}{B k n:Nat}{T:TypeId}{a:Option Addr}{m c:Nat}{zs:List Int}(h:W.ownsRow B T k (.slice a m c) n (zs.map (Value.int .i64)))(S:Nat->Prop)(l:∀b,(Value.slice a m c).ownBlock=some b->S b):m=n/\IRp S W k a m c zs/\(a=none->c=0):=by
 have i:=h.1;rw[aU]at i
 rcases(mz h).2 with⟨e,h0⟩|⟨g,cap,e,o,f,d⟩
 .cases e
  subst h0;exact⟨rfl,⟨by rw[i],ag _,fun h=>absurd h (by omega)⟩,fun _=>rfl⟩
 .cases e
  refine⟨rfl,⟨i,f,fun _=>⟨g,0,rfl,l g rfl,fun j p=>?_⟩⟩,fun e=>by cases e⟩;rw[aV,d.cell (j:=j) (by rw[aU];omega)];simp[ah,ae (show j<zs.length by omega)]
def sT.irp{B:Nat}{D:Nat->Prop}{W:World}{T:TypeId}{k:Nat}{p:iJ}{zs:List Int}(h:sT B D W T k p zs)(S:Nat->Prop)(d:∀b,p.v.ownBlock=some b->S b):IRp S W k p.a p.n p.c zs/\(p.a=none->p.c=0):=(ZE h.row S d).2
def sT.nil(B:Nat)(D:Nat->Prop)(W:World)(T:TypeId)(k:Nat):sT B D W T k ij []:=⟨World.ownsRow_nil _ _ _ _,(fun b e=>by cases e),fun _=>rfl⟩
def sT.keep{B:Nat}{D D':Nat->Prop}{W W':World}{T:TypeId}{k:Nat}{p:iJ}{zs:List Int}(h:sT B D W T k p zs)(c:∀b,p.v.ownBlock=some b->W'.heap[b]? =W.heap[b]?)(a:∀b,p.v.ownBlock=some b->D' b):sT B D' W' T k p zs:=
 ⟨me h.row c,a,h.pos⟩
def SG.move{B:Nat}{D D':Nat->Prop}{W W':World}{k:Nat}{p:iJ}{zs:List Int}(h:SG B D W k p zs)(a:gN (Fz B D W) W W')(c:∀b,Fz B D W b->Fz B D' W' b):SG B D' W' k p zs:=
 ⟨h.1.kept a c,h.2⟩
def sT.freeze{B:Nat}{D D':Nat->Prop}{W W':World}{T:TypeId}{k:Nat}{p:iJ}{zs:List Int}(h:sT B D W T k p zs)(a:∀b,p.v.ownBlock=some b->W'.heap[b]? =W.heap[b]? /\Fz B D' W' b):SG B D' W' k p zs:=
 sT.irp (h.keep (D':=D) (fun b hb=>(a b hb).1) h.inD) _ (fun b hb=>(a b hb).2)
def lS(i at_:Int)(B:Nat)(D:Nat->Prop)(W:World)(T:TypeId)(k c:Nat)(p:iJ)(zs:List Int):Prop:=
 p.n<=c/\((at_<i/\p=ij/\zs=[])\/(at_=i/\sT B D W T k p zs)\/(i<at_/\SG B D W k p zs))
def lS.keep{i at_:Int}{B:Nat}{D:Nat->Prop}{W W':World}{T:TypeId}{k c:Nat}{p:iJ}{zs:List Int}(h:lS i at_ B D W T k c p zs)(a:∀b,B<=b->b<W.heap.size->W'.heap[b]? =W.heap[b]?)(d:W.heap.size<=W'.heap.size):lS i at_ B D W' T k c p zs:=by
 refine⟨h.1,h.2.imp id (Or.imp (fQ id fun h=>?_) (fQ id fun h=>?_))⟩
 .exact h.keep (fun b hb=>a b (gT h.row hb).1 (gT h.row hb).2) h.inD
 .exact h.move (fun b hb=>a b hb.1 hb.2.1) (fun b hb=>⟨hb.1,eb hb.2.1 d,hb.2.2⟩)
def lS.own{i at_:Int}{B:Nat}{D:Nat->Prop}{W:World}{T:TypeId}{k c:Nat}{p:iJ}{zs:List Int}(h:lS i at_ B D W T k c p zs)(hat:at_<=i):sT B D W T k p zs:=by
 obtain ⟨_,rfl,rfl⟩|⟨_,h⟩|⟨h,_⟩:=h.2
 .exact sT.nil _ _ _ _ _
 .exact h
 .omega
def lS.close{i at_ at':Int}{B:Nat}{D D':Nat->Prop}{W W':World}{T:TypeId}{k c c':Nat}{p:iJ}{zs:List Int}(h:lS i at_ B D W T k c p zs)(hat:i<at')(a:c<=c')
 (d:gN (Fz B D W) W W')(g:∀b,Fz B D W b->Fz B D' W' b)(f:at_=i-> ∀b,p.v.ownBlock=some b->W'.heap[b]? =W.heap[b]? /\Fz B D' W' b):lS i at' B D' W' T k c' p zs:=by
 refine⟨af h.1 a,VS (VS ⟨hat,?_⟩)⟩
 obtain ⟨_,rfl,rfl⟩|⟨e,h⟩|⟨_,h⟩:=h.2
 .exact⟨IRp.nil _ _ _ _ _,fun _=>rfl⟩
 .exact h.freeze (f e)
 .exact h.move d g
def lS.wait{i at_ at':Int}{B:Nat}{D D':Nat->Prop}{W W':World}{T:TypeId}{k c c':Nat}{p:iJ}{zs:List Int}(h:lS i at_ B D W T k c p zs)(hat:at_<i)(a:at'<i)(b:c<=c'):lS i at' B D' W' T k c' p zs:=by
 refine⟨af h.1 b,VR ⟨a,?_⟩⟩
 obtain ⟨_,h⟩|⟨e,_⟩|⟨e,_⟩:=h.2
 .exact h
 .omega
 .omega
def lS.irp{i at_:Int}{B:Nat}{D:Nat->Prop}{W:World}{T:TypeId}{k c:Nat}{p:iJ}{zs:List Int}(h:lS i at_ B D W T k c p zs):IRp (fun b=>B<=b/\b<W.heap.size) W k p.a p.n p.c zs/\(p.a=none->p.c=0):=by
 obtain ⟨_,rfl,rfl⟩|⟨e,h⟩|⟨_,h⟩:=h.2
 .exact⟨IRp.nil _ _ _ _ _,fun _=>rfl⟩
 .exact h.irp _ (fun b hb=>gT h.row hb)
 .exact⟨h.1.kept (gN.refl _ _) (fun b hb=>⟨hb.1,hb.2.1⟩),h.2⟩
structure my (B:Nat) (D:Nat->Prop) (W:World) (c:Nat) (p:iJ) (m:Value) (l:List gM) (seen:List (List UInt8)) (l0:List gM) (y:gM) (css:List (List Value)) (q:iJ) (bb cap bm:Nat):Prop where
 el:l=l0++[y]
 ep:p=⟨some ⟨bb,0,none⟩,l0.length+1,cap⟩
 ecss:css.length=l0.length
 k:∀cs∈css,cs.length=22
 row:W.ownsRow B 58 22 (.slice (J bb) (l0.length+1) cap) (l0.length+1) (css.flatten++gX y.s q.a q.n q.c)
 p8:sT B D W 60 3 q y.zs
 qn:q.n<=c
 rep:∀(i:Nat)(x:gM)(cs:List Value),l0[i]? =some x->css[i]? =some cs->jE (Fz B D W) W x cs
 dbb:D bb
 gA:y.s.gA.size<=1000000
 em:m=.map (some bm)
 map:oC W bm (seen.map bs)
 dbm:D bm
 bmB:B<=bm
def oC.lt{W:World}{b:Nat}{ks:List ByteArray}(h:oC W b ks):b<W.heap.size:=by
 obtain⟨c,a,h1,_⟩:=h;exact TK h1
def my.bbB{B:Nat}{D:Nat->Prop}{W:World}{c:Nat}{p:iJ}{m:Value}{l:List gM}{seen:List (List UInt8)}{d:List gM}{y:gM}{css:List (List Value)}{q:iJ}{a cap b:Nat}(h:my B D W c p m l seen d y css q a cap b):B<=a/\a<W.heap.size:=gT h.row rfl
def my.keep{B:Nat}{D:Nat->Prop}{W W':World}{c:Nat}{p:iJ}{m:Value}{l:List gM}{seen:List (List UInt8)}{f:List gM}{y:gM}{css:List (List Value)}{q:iJ}{e cap d:Nat}(h:my B D W c p m l seen f y css q e cap d)(a:∀b,B<=b->b<W.heap.size->W'.heap[b]? =W.heap[b]?)(g:W.heap.size<=W'.heap.size):my B D W' c p m l seen f y css q e cap d:=
 ⟨h.el,h.ep,h.ecss,h.k,me h.row (fun b hb=>a b (gT h.row hb).1 (gT h.row hb).2),h.p8.keep (fun b hb=>a b (gT h.p8.row hb).1 (gT h.p8.row hb).2) h.p8.inD,h.qn,
   fun i x cs h1 h2=>iD.kept (h.rep i x cs h1 h2) (fun b hb=>a b hb.1 hb.2.1) (fun b hb=>⟨hb.1,eb hb.2.1 g,hb.2.2⟩),h.dbb,h.gA,h.em,h.map.block (a d h.bmB h.map.lt),h.dbm,h.bmB⟩
def NW{W:World}{B k n:Nat}{T:TypeId}{α:Type}{R:pB α}(ok:kR k R){a cap:Nat}{css:List (List Value)}{l:List α}(h:W.ownsRow B T k (.slice (J a) n cap) n css.flatten)(r:l.length=n)(f:∀cs∈css,cs.length=k)(w:css.length=l.length){S:Nat->Prop}(d:S a)
 (s:∀(i:Nat)(x:α)(cs:List Value),l[i]? =some x->css[i]? =some cs->R S W x cs):RR R k S W (J a) n cap l:=by
 obtain ⟨e,_⟩|⟨g,p,u,e,y,z,t,A,C,D⟩:=h.2
 .cases e
 .cases e
  refine⟨r,t,fun h0=>⟨a,0,rfl,d,fun i x o=>?_⟩⟩;have hi:=(TG.1 o).1;have c:css[i]? =some css[i]:=ae (by omega);refine⟨css[i],s i x _ o c,fun j v m=>?_⟩
  have q:j<k:=by
   have:=(TG.1 m).1;rw[f css[i] (cW _)]at this;exact this
  have b:=h.cells (g:=a) rfl (i*k+j) v (by rw[mC css i _ j f c q];exact m);rw[Addr.add_mid,<- cN]at b;exact b
def my.last{B:Nat}{D:Nat->Prop}{W:World}{c:Nat}{p:iJ}{m:Value}{l:List gM}{seen:List (List UInt8)}{g:List gM}{y:gM}{css:List (List Value)}{q:iJ}{d cap e:Nat}(h:my B D W c p m l seen g y css q d cap e){S:Nat->Prop}(f:∀b,q.v.ownBlock=some b->S b)(i:c<=1000000):jE S W y (gX y.s q.a q.n q.c):=by
 obtain⟨h1,h2⟩:=h.p8.irp S f;exact⟨q.a,q.n,q.c,rfl,h1,by have:=h.qn;omega,h2,by have:=h.gA;omega⟩
def my.rr{B:Nat}{D:Nat->Prop}{W:World}{c:Nat}{p:iJ}{m:Value}{l:List gM}{seen:List (List UInt8)}{f:List gM}{y:gM}{css:List (List Value)}{q:iJ}{g cap r:Nat}(h:my B D W c p m l seen f y css q g cap r){S:Nat->Prop}(h1:∀b,Fz B D W b->S b)(h2:S g)(h3:∀b,q.v.ownBlock=some b->S b)(t:c<=1000000):RR jE 22 S W p.a p.n p.c l:=by
 have o:=h.ecss;rw[h.ep,h.el];refine NW (css:=css++[gX y.s q.a q.n q.c]) iD (by simpa using h.row) (by simp) (fun cs d=>?_) (by simp[o]) h2 (fun i x cs e d=>?_)
 .obtain d|d:=bj.1 d
  .exact h.k cs d
  .simp only[aK]at d;subst d;rfl
 .by_cases hi:i<f.length
  .rw[aF hi]at e
   rw[aF (by omega)]at d;exact iD.kept (h.rep i x cs e d) (gN.refl _ _) h1
  .have j:i=f.length:=by
    have:=(TG.1 e).1;simp at this;omega
   subst j;simp only[bT,bA]at e;rw[<- o]at d;simp only[bT,bA]at d;subst e;subst d;exact h.last h3 t
def nG(at_:Int)(B:Nat)(D:Nat->Prop)(W:World)(c:Nat)(p:iJ)(m:Value)(l:List gM)(seen:List (List UInt8)):Prop:=
 p.n<=c/\((at_<7/\p=ij/\l=[])\/(at_=7/\ ∃e y css q b cap d,my B D W c p m l seen e y css q b cap d)\/(7<at_/\RR jE 22 (Fz B D W) W p.a p.n p.c l))
def nG.keep{at_:Int}{B:Nat}{D:Nat->Prop}{W W':World}{c:Nat}{p:iJ}{m:Value}{l:List gM}{seen:List (List UInt8)}(h:nG at_ B D W c p m l seen)(a:∀b,B<=b->b<W.heap.size->W'.heap[b]? =W.heap[b]?)(d:W.heap.size<=W'.heap.size):nG at_ B D W' c p m l seen:=by
 refine⟨h.1,h.2.imp id (Or.imp (fQ id fun h=>?_) (fQ id fun h=>?_))⟩
 .obtain⟨g,y,css,q,e,cap,f,h⟩:=h
  exact⟨g,y,css,q,e,cap,f,h.keep a d⟩
 .exact h.kept iD (fun b hb=>a b hb.1 hb.2.1) (fun b hb=>⟨hb.1,eb hb.2.1 d,hb.2.2⟩)
def nG.wait{at_ at':Int}{B:Nat}{D D':Nat->Prop}{W W':World}{c c':Nat}{p:iJ}{m m':Value}{l:List gM}{seen a:List (List UInt8)}(h:nG at_ B D W c p m l seen)(hat:at_<7)(b:at'<7)(d:c<=c'):nG at' B D' W' c' p m' l a:=by
 refine⟨af h.1 d,VR ⟨b,?_⟩⟩
 obtain ⟨_,h⟩|⟨e,_⟩|⟨e,_⟩:=h.2
 .exact h
 .omega
 .omega
def nG.close{at_ at':Int}{B:Nat}{D D':Nat->Prop}{W W':World}{c c':Nat}{p:iJ}{m m':Value}{l:List gM}{seen a:List (List UInt8)}(h:nG at_ B D W c p m l seen)(hat:7<at')(g:c<=c')(d:c<=1000000)
 (i:gN (Fz B D W) W W')(j:∀b,Fz B D W b->Fz B D' W' b)(f:at_=7-> ∀b,B<=b->b<W.heap.size->W'.heap[b]? =W.heap[b]? /\Fz B D' W' b):nG at' B D' W' c' p m' l a:=by
 refine⟨af h.1 g,VS (VS ⟨hat,?_⟩)⟩
 obtain ⟨_,rfl,rfl⟩|⟨e,o,y,css,q,k,cap,n,h⟩|⟨_,h⟩:=h.2
 .exact RR.nil _ _ _ _ _ _
 .exact(h.rr (S:=fun b=>B<=b/\b<W.heap.size) (fun b hb=>⟨hb.1,hb.2.1⟩) h.bbB (fun b hb=>gT h.p8.row hb) d).kept iD (fun b hb=>(f e b hb.1 hb.2).1) (fun b hb=>(f e b hb.1 hb.2).2)
 .exact h.kept iD i j
def nG.rr{at_:Int}{B:Nat}{D:Nat->Prop}{W:World}{c:Nat}{p:iJ}{m:Value}{l:List gM}{seen:List (List UInt8)}(h:nG at_ B D W c p m l seen)(d:c<=1000000):RR jE 22 (fun b=>B<=b/\b<W.heap.size) W p.a p.n p.c l:=by
 obtain ⟨_,rfl,rfl⟩|⟨e,i,y,css,q,f,cap,g,h⟩|⟨_,h⟩:=h.2
 .exact RR.nil _ _ _ _ _ _
 .exact h.rr (fun b hb=>⟨hb.1,hb.2.1⟩) h.bbB (fun b hb=>gT h.p8.row hb) d
 .exact h.kept iD (gN.refl _ _) (fun b hb=>⟨hb.1,hb.2.1⟩)
structure qL (B:Nat) (D:Nat->Prop) (W:World) (c:Nat) (p:iJ) (l:List jd) (l0:List jd) (y:jd) (css:List (List Value)) (q:iJ) (bb cap:Nat):Prop where
 el:l=l0++[y]
 ep:p=⟨some ⟨bb,0,none⟩,l0.length+1,cap⟩
 ecss:css.length=l0.length
 k:∀cs∈css,cs.length=2
 row:W.ownsRow B 67 2 (.slice (J bb) (l0.length+1) cap) (l0.length+1) (css.flatten++[.string y.nm,.slice q.a q.n q.c])
 p8:sT B D W 64 3 q y.zs
 qn:q.n<=c
 rep:∀(i:Nat)(x:jd)(cs:List Value),l0[i]? =some x->css[i]? =some cs->oB (Fz B D W) W x cs
 dbb:D bb
 nm:y.nm.size<=1000000
def qL.bbB{B:Nat}{D:Nat->Prop}{W:World}{c:Nat}{p:iJ}{l b:List jd}{y:jd}{css:List (List Value)}{q:iJ}{a cap:Nat}(h:qL B D W c p l b y css q a cap):B<=a/\a<W.heap.size:=gT h.row rfl
def qL.keep{B:Nat}{D:Nat->Prop}{W W':World}{c:Nat}{p:iJ}{l e:List jd}{y:jd}{css:List (List Value)}{q:iJ}{d cap:Nat}(h:qL B D W c p l e y css q d cap)(a:∀b,B<=b->b<W.heap.size->W'.heap[b]? =W.heap[b]?)(f:W.heap.size<=W'.heap.size):qL B D W' c p l e y css q d cap:=
 ⟨h.el,h.ep,h.ecss,h.k,me h.row (fun b hb=>a b (gT h.row hb).1 (gT h.row hb).2),h.p8.keep (fun b hb=>a b (gT h.p8.row hb).1 (gT h.p8.row hb).2) h.p8.inD,h.qn,
   fun i x cs h1 h2=>ky.kept (h.rep i x cs h1 h2) (fun b hb=>a b hb.1 hb.2.1) (fun b hb=>⟨hb.1,eb hb.2.1 f,hb.2.2⟩),h.dbb,h.nm⟩
def qL.last{B:Nat}{D:Nat->Prop}{W:World}{c:Nat}{p:iJ}{l f:List jd}{y:jd}{css:List (List Value)}{q:iJ}{d cap:Nat}(h:qL B D W c p l f y css q d cap){S:Nat->Prop}(e:∀b,q.v.ownBlock=some b->S b)(g:c<=1000000):oB S W y [y.nm,Z q.a q.n q.c]:=by
 obtain⟨h1,h2⟩:=h.p8.irp S e;exact⟨q.a,q.n,q.c,rfl,h1,by have:=h.qn;omega,h2,by have:=h.nm;omega⟩
def qL.rr{B:Nat}{D:Nat->Prop}{W:World}{c:Nat}{p:iJ}{l f:List jd}{y:jd}{css:List (List Value)}{q:iJ}{g cap:Nat}(h:qL B D W c p l f y css q g cap){S:Nat->Prop}(h1:∀b,Fz B D W b->S b)(h2:S g)(h3:∀b,q.v.ownBlock=some b->S b)(o:c<=1000000):RR oB 2 S W p.a p.n p.c l:=by
 have m:=h.ecss;rw[h.ep,h.el];refine NW (css:=css++[[.string y.nm,.slice q.a q.n q.c]]) ky (by simpa using h.row) (by simp) (fun cs d=>?_) (by simp[m]) h2 (fun i x cs e d=>?_)
 .obtain d|d:=bj.1 d
  .exact h.k cs d
  .simp only[aK]at d;subst d;rfl
 .by_cases hi:i<f.length
  .rw[aF hi]at e
   rw[aF (by omega)]at d;exact ky.kept (h.rep i x cs e d) (gN.refl _ _) h1
  .have j:i=f.length:=by
    have:=(TG.1 e).1;simp at this;omega
   subst j;simp only[bT,bA]at e;rw[<- m]at d;simp only[bT,bA]at d;subst e;subst d;exact h.last h3 o
def nH(at_:Int)(B:Nat)(D:Nat->Prop)(W:World)(c:Nat)(p:iJ)(l:List jd):Prop:=
 p.n<=c/\((at_<8/\p=ij/\l=[])\/(at_=8/\ ∃d y css q b cap,qL B D W c p l d y css q b cap)\/(8<at_/\RR oB 2 (Fz B D W) W p.a p.n p.c l))
def nH.keep{at_:Int}{B:Nat}{D:Nat->Prop}{W W':World}{c:Nat}{p:iJ}{l:List jd}(h:nH at_ B D W c p l)(a:∀b,B<=b->b<W.heap.size->W'.heap[b]? =W.heap[b]?)(d:W.heap.size<=W'.heap.size):nH at_ B D W' c p l:=by
 refine⟨h.1,h.2.imp id (Or.imp (fQ id fun h=>?_) (fQ id fun h=>?_))⟩
 .obtain⟨f,y,css,q,e,cap,h⟩:=h
  exact⟨f,y,css,q,e,cap,h.keep a d⟩
 .exact h.kept ky (fun b hb=>a b hb.1 hb.2.1) (fun b hb=>⟨hb.1,eb hb.2.1 d,hb.2.2⟩)
def nH.wait{at_ at':Int}{B:Nat}{D D':Nat->Prop}{W W':World}{c c':Nat}{p:iJ}{l:List jd}(h:nH at_ B D W c p l)(hat:at_<8)(a:at'<8)(b:c<=c'):nH at' B D' W' c' p l:=by
 refine⟨af h.1 b,VR ⟨a,?_⟩⟩
 obtain ⟨_,h⟩|⟨e,_⟩|⟨e,_⟩:=h.2
 .exact h
 .omega
 .omega
def nH.close{at_ at':Int}{B:Nat}{D D':Nat->Prop}{W W':World}{c c':Nat}{p:iJ}{l:List jd}(h:nH at_ B D W c p l)(hat:8<at')(f:c<=c')(a:c<=1000000)
 (g:gN (Fz B D W) W W')(i:∀b,Fz B D W b->Fz B D' W' b)(d:at_=8-> ∀b,B<=b->b<W.heap.size->W'.heap[b]? =W.heap[b]? /\Fz B D' W' b):nH at' B D' W' c' p l:=by
 refine⟨af h.1 f,VS (VS ⟨hat,?_⟩)⟩
 obtain ⟨_,rfl,rfl⟩|⟨e,k,y,css,q,j,cap,h⟩|⟨_,h⟩:=h.2
 .exact RR.nil _ _ _ _ _ _
 .exact(h.rr (S:=fun b=>B<=b/\b<W.heap.size) (fun b hb=>⟨hb.1,hb.2.1⟩) h.bbB (fun b hb=>gT h.p8.row hb) a).kept ky (fun b hb=>(d e b hb.1 hb.2).1) (fun b hb=>(d e b hb.1 hb.2).2)
 .exact h.kept ky g i
def nH.rr{at_:Int}{B:Nat}{D:Nat->Prop}{W:World}{c:Nat}{p:iJ}{l:List jd}(h:nH at_ B D W c p l)(d:c<=1000000):RR oB 2 (fun b=>B<=b/\b<W.heap.size) W p.a p.n p.c l:=by
 obtain ⟨_,rfl,rfl⟩|⟨e,g,y,css,q,f,cap,h⟩|⟨_,h⟩:=h.2
 .exact RR.nil _ _ _ _ _ _
 .exact h.rr (fun b hb=>⟨hb.1,hb.2.1⟩) h.bbB (fun b hb=>gT h.p8.row hb) d
 .exact h.kept ky (gN.refl _ _) (fun b hb=>⟨hb.1,hb.2.1⟩)
structure AX (B g c:Nat) (D:Nat->Prop) (r:jL) (W:World) (f v s k:iJ) (m:Value):Prop where
 gB:g<B
 c1:c<=100002
 dg:D g
 own:∀b,D b->(b=g\/B<=b)/\b<W.heap.size
 lo: -1<=r.at_
 hi:r.at_<=9
 nm:r.x.nm.size<=1000000
 fs:lS 5 r.at_ B D W 77 2 c f r.x.fs
 ws:lS 6 r.at_ B D W 79 2 c v r.x.ws
 l:nG r.at_ B D W c s m r.x.l r.seen
 cf:nH r.at_ B D W c k r.x.cf
def AX.keep{B g c:Nat}{D:Nat->Prop}{r:jL}{W W':World}{f v s k:iJ}{m:Value}(h:AX B g c D r W f v s k m)(d:∀b,B<=b->b<W.heap.size->W'.heap[b]? =W.heap[b]?)(a:W.heap.size<=W'.heap.size):AX B g c D r W' f v s k m:=
 ⟨h.gB,h.c1,h.dg,fun b hb=>⟨(h.own b hb).1,eb (h.own b hb).2 a⟩,h.lo,h.hi,h.nm,h.fs.keep d a,h.ws.keep d a,h.l.keep d a,h.cf.keep d a⟩
def AX.lensAt{B g c:Nat}{D:Nat->Prop}{r:jL}{W:World}{f v s k:iJ}{m:Value}(h:AX B g c D r W f v s k m):iP (fun b=>B<=b/\b<W.heap.size) W r.x f v s k:=by
 have d:=h.c1;have h1:=h.fs.1;have h2:=h.ws.1;have h3:=h.l.1;have a:=h.cf.1;exact⟨h.fs.irp.1,h.ws.irp.1,h.l.rr (by omega),h.cf.rr (by omega),by omega,by omega,by omega,by omega,h.fs.irp.2,h.ws.irp.2,by have:=h.nm;omega⟩
def jm(W:World)(g:Nat)(x:gR)(at_:Int)(f v s k:iJ)(m:Value):Prop:=W.heap[g]? =some (.cells (iw x f v s k++[.int .i64 at_,m]).toArray 164 (0,0))
def vM(B g:Nat)(a:Int)(c:Nat)(D:Nat->Prop)(r:jL)(W:World):Prop:=∃f v s k m,jm W g r.x a f v s k m/\AX B g c D r W f v s k m
def At(B g:Nat)(c:Nat)(D:Nat->Prop)(r:jL)(W:World):Prop:=vM B g r.at_ c D r W
def NX{B g:Nat}{W:World}(a:g<B)(h:nx W g Ae ij ij ij ij (.map none)):At B g 0 (fun b=>b=g) Ae W:=
 ⟨ij,ij,ij,ij,.map none,h,a,by omega,rfl,fun b hb=>⟨VR hb,by rw[hb];exact TK h⟩,by decide,by decide,by decide,
   ⟨ag _,VR ⟨by decide,rfl,rfl⟩⟩,⟨ag _,VR ⟨by decide,rfl,rfl⟩⟩,⟨ag _,VR ⟨by decide,rfl,rfl⟩⟩,⟨ag _,VR ⟨by decide,rfl,rfl⟩⟩⟩
def vM.keep{B g:Nat}{a:Int}{c:Nat}{D:Nat->Prop}{r:jL}{W W':World}(h:vM B g a c D r W)(d:∀b,b=g\/B<=b->b<W.heap.size->W'.heap[b]? =W.heap[b]?)(e:W.heap.size<=W'.heap.size):vM B g a c D r W':=by
 obtain⟨f,v,s,k,m,h1,h2⟩:=h;exact⟨f,v,s,k,m,(d g (VR rfl) (TK h1)).trans h1,h2.keep (fun b hb=>d b (VS hb)) e⟩
def vM.go{B g:Nat}{a:Int}{c:Nat}{D:Nat->Prop}{r:jL}{W W':World}(h:vM B g a c D r W)(hb:Below W W W'):vM B g a c D r W':=h.keep (fun b _ d=>hb.block b d) hb.size
def vM.put{B g:Nat}{a:Int}{c:Nat}{D:Nat->Prop}{r:jL}{W:World}(h:vM B g a c D r W):At B g c D r (W.setCell ⟨g,9,none⟩ (.int .i64 r.at_)):=by
 obtain⟨f,v,s,k,m,h1,h2⟩:=h;have d:=h2.gB;refine⟨f,v,s,k,m,?_,h2.keep (fun b hb _=>TI _ _ _ _ (fun e=>by have:b=g:=e;omega)) (by simp)⟩;have:=gG h1 9 (.int .i64 r.at_);simp only[iw,bK,bF,bD,aZ,aW]at this;exact this
def iE(B g:Nat)(d:Int)(c:Nat)(D:Nat->Prop)(a:Option jL)(W:World)(e:Ending)(W':World):Prop:=
 Below g W W'/\(∀k,k<W.heap.size-> ¬D k->W'.heap[k]? =W.heap[k]?)/\
  ((∃q,a=some q/\e=.returned (.tuple #[])/\ ∃D':Nat->Prop,(∀b,D' b->D b\/W.heap.size<=b)/\vM B g d (c+1) D' q W')\/(a=none/\e=iX))
def iE.bad{B g:Nat}{b:Int}{c:Nat}{D:Nat->Prop}{a:Option jL}{W W':World}(f:a=none)(hb:Below W W W')(d:g<=W.heap.size):iE B g b c D a W iX W':=
 ⟨hb.mono d,fun k e _=>hb.block k e,VS ⟨f,rfl⟩⟩
def FJ(B b:Nat)(l:List UInt8)(w:World)(h:Lib.IsBuilder 73 5 B b (Lib.byteCells l) w)(h0:l≠[]):
 Calls prog 18 #[U b] w fun e w'=>e=.returned (.string (bs l))/\Below B w w':=by
 obtain⟨p,F,v,k,c,E⟩:∃p,Lib.BuilderAt 73 5 B b p (Lib.byteCells l) w:=by
  obtain h|h:=h
  .exact⟨_,h⟩
  .exact⟨_,h⟩
 have o:l.length≠0:=by simpa using h0
 rw[Lib.byteCells_length]at c
 obtain⟨g,cap,a,rfl,i,q,D,m,C,d⟩:∃g cap a,v=.slice (J g) l.length cap/\B<=g/\w.heap[g]? =some (.cells a 5 (0,0))/\l.length<=cap/\cap<=maxLen/\a.size=cap*1/\a.toList.take (l.length*1)=Lib.byteCells l:=by
  obtain ⟨_,y⟩|⟨g,cap,a,t,r⟩:=c.2
  .exact absurd y o
  .exact⟨g,cap,a,t,r⟩
 have c1:w.drew.cell? ⟨b,1,none⟩=some (.slice (J g) l.length cap):=by
  have s:w.drew.heap[b]? =some (.cells #[p,Z (J g) l.length cap] 73 (0,0)):=k;exact VV s 1
 have z:(Builtin.unsafeSliceData_ #[24] 129 #[Z (J g) l.length cap]).run prog w.drew=.ok (.pointer (J g)) w.drew:=
  Lib.run_unsafeSliceData_row _ _ _ _ _ _ (by omega)
 have A:(Builtin.unsafeString_ #[129,3] 9 #[U g,l.length]).run prog w.drew=.ok (.string (bs l)) (w.drew.freeze (J g) l.length):=by
  refine Lib.run_unsafeString_row w.drew 129 3 9 5 underlying129 (by kernel_rfl) g a.size (by have n:w.drew.heap[g]? =some (.cells a 5 (0,0)):=q;simp[World.shape?,n]) l h0 (by omega) (by unfold maxLen at m;omega) ?_;intro j x u;exact c.cells (g:=g) rfl j (.int .u8 x.toNat) (by simp[Lib.byteCells,u])
 have f:prog.follows .mixedOrders=true:=by kernel_rfl
 go_enter func18,ntmps18;go_wp2;go_region_o
 all_goals(go_wp2;go_ret;exact⟨rfl,Lib.below_freeze (Below.drew (TH B w)) (p:=J g) i _⟩)
structure nI (W W':World) (v:Value) (g2:Nat):Prop where
 kept:∀b,b<W.heap.size->v.ownBlock≠some b->W'.heap[b]? =W.heap[b]?
 size:W.heap.size<=W'.heap.size
 os:W'.os=W.os
 tape:W'.tape=W.tape
 output:W'.output=W.output
 hat:v.ownBlock=some g2\/W.heap.size<=g2
 lt:g2<W'.heap.size
def LJ{W c W':World}{v:Value}{g2 H:Nat}(hb:Below W W c)(a:c.grownBy W' v.ownBlock)(hat:v.ownBlock=some g2\/g2=H)(d:W.heap.size<=H)(hlt:g2<W'.heap.size):nI W W' v g2:=
 ⟨fun b h1 h2=>(a.block b (eb h1 hb.size) (fun e=>h2 e.symm)).trans (hb.block b h1),af hb.size a.size,a.os.trans hb.os,a.tape.trans hb.tape,a.output.trans hb.output,hat.imp id (fun e=>by omega),hlt⟩
def nI.below{W W':World}{v:Value}{g2 g:Nat}(h:nI W W' v g2)(c:g<=W.heap.size)(a:∀b,v.ownBlock=some b->g<=b):Below g W W':=
 ⟨h.os,h.tape,h.output,h.size,fun k d=>h.kept k (by omega) (fun e=>by have:=a k e;omega)⟩
def lS.grow{i at_:Int}{B:Nat}{D D':Nat->Prop}{W W':World}{T:TypeId}{k c:Nat}{p:iJ}{zs d:List Int}{g2 cap:Nat}(h:lS i at_ B D W T k c p zs)
 (a:W'.ownsRow B T k (.slice (J g2) (p.n+1) cap) (p.n+1) (zs.map (Value.int .i64)++d.map (Value.int .i64)))(f:D' g2):lS i i B D' W' T k (c+1) ⟨some ⟨g2,0,none⟩,p.n+1,cap⟩ (zs++d):=
 ⟨by have:=h.1;show p.n+1<=c+1;omega,VS (VR ⟨rfl,by rw[aT];exact a,(fun b e=>by cases e;exact f),fun e=>by have:p.n+1=0:=e;omega⟩)⟩
def NY{B g g2:Nat}{D:Nat->Prop}{W W':World}{v:Value}(c:g<B)(a:∀b,v.ownBlock=some b->D b)(h:nI W W' v g2):(∀b,Fz B D W b->W'.heap[b]? =W.heap[b]?)/\ ∀b,Fz B D W b->Fz B (fun b=>b=g\/b=g2) W' b:=by
 refine⟨fun b hb=>h.kept b hb.2.1 (fun e=>hb.2.2 (a b e)),fun b hb=>⟨hb.1,eb hb.2.1 h.size,?_⟩⟩;rintro(e|e)
 .have:=hb.1;omega
 .obtain e2|e2:=h.hat
  .exact hb.2.2 (a b (by rw[e];exact e2))
  .have:=hb.2.1;omega
def nJ{W:World}{g:Nat}{x d:gR}{a:Int}{f v s k b c s' k':iJ}{m m':Value}{j:Nat}{u:Value}(h:jm W g x a f v s k m)(e:(iw x f v s k++[.int .i64 a,m]).set j u=iw d b c s' k'++[.int .i64 a,m']):jm (W.setCell ⟨g,j,none⟩ u) g d a b c s' k' m':=by
 have:=gG h j u;rw[bK,e]at this;exact this
def kZ{B:Nat}{W W':World}{g j:Nat}{u:Value}(h:Below B W W')(a:B<=g):Below B W (W'.setCell ⟨g,j,none⟩ u):=h.setCell (p:=⟨g,j,none⟩) a u
def iS{W:World}{g j b:Nat}{u:Value}(h:b≠g):(W.setCell ⟨g,j,none⟩ u).heap[b]? =W.heap[b]? :=TI _ _ _ _ (fun e=>h e)
def LK{B g:Nat}{e:Int}{c:Nat}{D:Nat->Prop}{r:jL}{W:World}{f v s k:iJ}{m:Value}{a:gR}{n j:Nat}{u:Value}(t:jm W g r.x e f v s k m)(d:AX B g c D r W f v s k m)(w:(iw r.x f v s k++[.int .i64 e,m]).set j u=iw a f v s k++[.int .i64 e,m])
 (y:a.fs=r.x.fs/\a.ws=r.x.ws/\a.l=r.x.l/\a.cf=r.x.cf)(h:a.nm.size<=1000000)(hat:r.at_<5)(z:n<5)(h1:c<=100001):vM B g e (c+1) D ⟨a,(n:Int),[]⟩ (W.setCell ⟨g,j,none⟩ u):=by
 obtain⟨i,o,p,q⟩:=y;refine⟨f,v,s,k,m,nJ t w,d.gB,by omega,d.dg,fun b hb=>⟨(d.own b hb).1,by simpa using(d.own b hb).2⟩,by show(-1:Int)<=(n:Int);omega,by show(n:Int)<=9;omega,h,?_,?_,?_,?_⟩
 .show lS 5 (n:Int) _ _ _ _ _ _ _ a.fs
  rw[i];exact d.fs.wait (by omega) (by omega) (by omega)
 .show lS 6 (n:Int) _ _ _ _ _ _ _ a.ws
  rw[o];exact d.ws.wait (by omega) (by omega) (by omega)
 .show nG (n:Int) _ _ _ _ _ _ a.l _
  rw[p];exact d.l.wait (by omega) (by omega) (by omega)
 .show nH (n:Int) _ _ _ _ _ a.cf
  rw[q];exact d.cf.wait (by omega) (by omega) (by omega)
def qM{B g:Nat}{d:Int}{c:Nat}{D:Nat->Prop}{r:jL}{i W:World}{f v s k:iJ}{m:Value}{a:gR}{n j:Nat}{u:Value}{o:Option jL}(E:o=some ⟨a,(n:Int),[]⟩)(hb:Below i i W)(z:jm W g r.x d f v s k m)(p:AX B g c D r W f v s k m)(A:(iw r.x f v s k++[.int .i64 d,m]).set j u=iw a f v s k++[.int .i64 d,m])
 (F:a.fs=r.x.fs/\a.ws=r.x.ws/\a.l=r.x.l/\a.cf=r.x.cf)(y:a.nm.size<=1000000)(hat:r.at_<5)(C:n<5)(h1:c<=100001)(w:g<=i.heap.size):iE B g d c D o i (.returned (.tuple #[])) (W.setCell ⟨g,j,none⟩ u):=
 ⟨kZ (hb.mono w) (ag _),fun b q t=>(iS (fun e=>t (by rw[e];exact p.dg))).trans (hb.block b q),VR ⟨_,E,rfl,D,fun _ h=>VR h,LK z p A F y hat C h1⟩⟩
def FK{B g:Nat}{h:Int}{c:Nat}{D:Nat->Prop}{r:jL}{d W W':World}{f v s k:iJ}{m:Value}{t:List Int}{g2 cap:Nat}{q:Option jL}(y:q=some ⟨{r.x with fs:=r.x.fs++t},5,[]⟩)(hb:Below d d W)(hA:jm W g r.x h f v s k m)(hL:AX B g c D r W f v s k m)
 (hrow:W'.ownsRow B 77 2 (.slice (J g2) (f.n+1) cap) (f.n+1) (r.x.fs.map (Value.int .i64)++t.map (Value.int .i64)))(hgr:nI W W' f.v g2)(hg2:B<=g2)(hat:r.at_<=5)(h1:c<=100001)(hg0:B<=d.heap.size):
 iE B g h c D q d (.returned (.tuple #[])) (W'.setCell ⟨g,5,none⟩ (.slice (J g2) (f.n+1) cap)):=by
 have p:=hL.gB;have a:=hL.fs.own hat;have hlt:=TK hA
 have i:f.v.ownBlock≠some g:=fun e=>by have:=(gT a.row e).1;omega
 have u:jm W' g r.x h f v s k m:=(hgr.kept g hlt i).trans hA
 have w:∀b,(b=g\/b=g2)->D b\/d.heap.size<=b:=by
  rintro b (e|e)
  .exact VR (by rw[e];exact hL.dg)
  .obtain e2|e2:=hgr.hat
   .exact VR (by rw[e];exact a.inD g2 e2)
   .exact VS (by have:=hb.size;omega)
 obtain⟨z,A⟩:=NY p a.inD hgr;refine⟨kZ ((hb.mono (by omega)).trans (hgr.below (by omega) (fun b e=>by have:=(gT a.row e).1;omega))) (ag _),fun b j o=>?_,VR ⟨_,y,rfl,fun b=>b=g\/b=g2,w,⟨⟨some ⟨g2,0,none⟩,f.n+1,cap⟩,v,s,k,m,?_,?_⟩⟩⟩
 .exact(iS (fun e=>o (by rw[e];exact hL.dg))).trans ((hgr.kept b (eb j hb.size) (fun e=>o (a.inD b e))).trans (hb.block b j))
 .exact nJ u rfl
 .have key:AX B g (c+1) (fun b=>b=g\/b=g2) ⟨{r.x with fs:=r.x.fs++t},5,[]⟩ W' ⟨some ⟨g2,0,none⟩,f.n+1,cap⟩ v s k m:=
   ⟨p,by omega,VR rfl,fun b hb=>by
     obtain e|e:=hb
     .exact⟨VR e,by rw[e];exact eb hlt hgr.size⟩
     .exact⟨VS (by rw[e];exact hg2),by rw[e];exact hgr.lt⟩,(by dsimp only;omega),(by dsimp only;omega),hL.nm,hL.fs.grow hrow (VS rfl),hL.ws.wait (by omega) (by dsimp only;omega) (by omega),hL.l.wait (by omega) (by dsimp only;omega) (by omega),hL.cf.wait (by omega) (by dsimp only;omega) (by omega)⟩
  exact key.keep (fun b hb _=>iS (by omega)) (by simp)
def IC{B g:Nat}{j:Int}{c:Nat}{D:Nat->Prop}{r:jL}{i W W':World}{f v s k:iJ}{m:Value}{w:List Int}{g2 cap:Nat}{u:Option jL}(F:u=some ⟨{r.x with ws:=r.x.ws++w},6,[]⟩)(hb:Below i i W)(hA:jm W g r.x j f v s k m)(hL:AX B g c D r W f v s k m)
 (hrow:W'.ownsRow B 79 2 (.slice (J g2) (v.n+1) cap) (v.n+1) (r.x.ws.map (Value.int .i64)++w.map (Value.int .i64)))(hgr:nI W W' v.v g2)(hg2:B<=g2)(hat:r.at_<=6)(h1:c<=100001)(hg0:B<=i.heap.size):
 iE B g j c D u i (.returned (.tuple #[])) (W'.setCell ⟨g,6,none⟩ (.slice (J g2) (v.n+1) cap)):=by
 have q:=hL.gB;have a:=hL.ws.own hat;have hlt:=TK hA
 have o:v.v.ownBlock≠some g:=fun e=>by have:=(gT a.row e).1;omega
 have y:jm W' g r.x j f v s k m:=(hgr.kept g hlt o).trans hA
 have z:∀b,(b=g\/b=g2)->D b\/i.heap.size<=b:=by
  rintro b (e|e)
  .exact VR (by rw[e];exact hL.dg)
  .obtain e2|e2:=hgr.hat
   .exact VR (by rw[e];exact a.inD g2 e2)
   .exact VS (by have:=hb.size;omega)
 obtain⟨C,E⟩:=NY q a.inD hgr;refine⟨kZ ((hb.mono (by omega)).trans (hgr.below (by omega) (fun b e=>by have:=(gT a.row e).1;omega))) (ag _),fun b p d=>?_,VR ⟨_,F,rfl,fun b=>b=g\/b=g2,z,⟨f,⟨some ⟨g2,0,none⟩,v.n+1,cap⟩,s,k,m,?_,?_⟩⟩⟩
 .exact(iS (fun e=>d (by rw[e];exact hL.dg))).trans ((hgr.kept b (eb p hb.size) (fun e=>d (a.inD b e))).trans (hb.block b p))
 .exact nJ y rfl
 .have key:AX B g (c+1) (fun b=>b=g\/b=g2) ⟨{r.x with ws:=r.x.ws++w},6,[]⟩ W' f ⟨some ⟨g2,0,none⟩,v.n+1,cap⟩ s k m:=
   ⟨q,by omega,VR rfl,fun b hb=>by
     obtain e|e:=hb
     .exact⟨VR e,by rw[e];exact eb hlt hgr.size⟩
     .exact⟨VS (by rw[e];exact hg2),by rw[e];exact hgr.lt⟩,(by dsimp only;omega),(by dsimp only;omega),hL.nm,hL.fs.close (by dsimp only;omega) (by omega) C E (fun H b A=>?_),hL.ws.grow hrow (VS rfl),hL.l.wait (by omega) (by dsimp only;omega) (by omega),hL.cf.wait (by omega) (by dsimp only;omega) (by omega)⟩
  .exact key.keep (fun b hb _=>iS (by omega)) (by simp)
  .
   have t:v=ij:=by
    obtain ⟨_,h,_⟩|⟨h,_⟩|⟨h,_⟩:=hL.ws.2
    .exact h
    .omega
    .omega
   have d:=gT (hL.fs.own (by omega)).row A;refine⟨hgr.kept b d.2 (by rw[t];intro e;cases e),d.1,eb d.2 hgr.size,?_⟩;rintro(e|e)
   .omega
   .obtain e2|e2:=hgr.hat
    .rw[t]at e2;cases e2
    .omega
def Xy{B g:Nat}{n:Int}{c:Nat}{D:Nat->Prop}{r:jL}{j W:World}{o:Option jL}(u:o=some ⟨r.x,9,[]⟩)(hb:Below j j W)(h:vM B g n c D r W)(hat:r.at_<=8)(h1:c<=100001)(w:B<=j.heap.size):
 iE B g n c D o j (.returned (.tuple #[])) W:=by
 obtain⟨f,v,s,k,m,p,d⟩:=h;have t:=d.gB;have hlt:=TK p
 have a:∀b,B<=b->b<W.heap.size->W.heap[b]? =W.heap[b]? /\Fz B (fun b=>b=g) W b:=fun b h2 h3=>⟨rfl,h2,h3,by intro e;omega⟩
 refine⟨hb.mono (by omega),fun b q _=>hb.block b q,VR ⟨_,u,rfl,fun b=>b=g,fun b e=>VR (by rw[e];exact d.dg),f,v,s,k,m,p,t,by omega,rfl,fun b e=>⟨VR e,by rw[e];exact hlt⟩,(by dsimp only;omega),(by dsimp only;omega),d.nm,?_,?_,?_,?_⟩⟩
 .exact d.fs.close (by dsimp only;omega) (by omega) (fun b _=>rfl) (fun b hb=>(a b hb.1 hb.2.1).2) (fun e b i=>a b (gT (d.fs.own (by omega)).row i).1 (gT (d.fs.own (by omega)).row i).2)
 .exact d.ws.close (by dsimp only;omega) (by omega) (fun b _=>rfl) (fun b hb=>(a b hb.1 hb.2.1).2) (fun e b i=>a b (gT (d.ws.own (by omega)).row i).1 (gT (d.ws.own (by omega)).row i).2)
 .exact d.l.close (by show(7:Int) <9;decide) (by omega) (by omega) (fun b _=>rfl) (fun b hb=>(a b hb.1 hb.2.1).2) (fun _ b h2 h3=>a b h2 h3)
 .exact d.cf.close (by show(8:Int) <9;decide) (by omega) (by omega) (fun b _=>rfl) (fun b hb=>(a b hb.1 hb.2.1).2) (fun _ b h2 h3=>a b h2 h3)
structure xq {α:Type} (R:pB α) (k:Nat) (T:TypeId) (B:Nat) (D:Nat->Prop) (W:World) (p:iJ) (l:List α) (css:List (List Value)):Prop where
 row:W.ownsRow B T k p.v p.n css.flatten
 len:css.length=l.length
 n:p.n=l.length
 k:∀cs∈css,cs.length=k
 rep:∀(i:Nat)(x:α)(cs:List Value),l[i]? =some x->css[i]? =some cs->R (fun b=>B<=b/\b<W.heap.size/\p.v.ownBlock≠some b) W x cs
 inD:∀b,p.v.ownBlock=some b->D b
def xq.nil{α:Type}(R:pB α)(k:Nat)(T:TypeId)(B:Nat)(D:Nat->Prop)(W:World):xq R k T B D W ij [] []:=
 ⟨World.ownsRow_nil _ _ _ _,rfl,rfl,by simp,fun i x cs h=>by simp at h,fun b e=>by cases e⟩
def ue{W:World}{B j k k' n n' b:Nat}{T d:TypeId}{v e:Value}{xs f:List Value}(h1:W.ownsRow B T k v n xs)(h2:W.ownsRow j d k' e n' f)(l:T≠d)(hb:v.ownBlock=some b):e.ownBlock≠some b:=by
 intro a
 obtain ⟨rfl,_⟩|⟨g,cap,o,rfl,_,m,_⟩:=h1.2
 .cases hb
 .obtain ⟨rfl,_⟩|⟨p,h,i,rfl,_,c,_⟩:=h2.2
  .cases a
  .cases hb;cases a
   rw[m]at c;cases c;exact l rfl
def XF{W:World}{B k n b:Nat}{T:TypeId}{v:Value}{xs:List Value}{ks:List ByteArray}(h1:W.ownsRow B T k v n xs)(h2:oC W b ks):v.ownBlock≠some b:=by
 intro hb;obtain⟨e,a,h3,_⟩:=h2
 obtain ⟨rfl,_⟩|⟨g,cap,d,rfl,_,c,_⟩:=h1.2
 .cases hb
 .cases hb
  rw[c]at h3;cases h3
def my.ne{B:Nat}{D:Nat->Prop}{W:World}{c:Nat}{p:iJ}{m:Value}{l:List gM}{seen:List (List UInt8)}{d:List gM}{y:gM}{css:List (List Value)}{q:iJ}{a cap b:Nat}(h:my B D W c p m l seen d y css q a cap b):q.v.ownBlock≠some a/\b≠a/\q.v.ownBlock≠some b:=
 ⟨ue h.row h.p8.row (by decide) rfl,fun e=>XF h.row h.map (by rw[e];rfl),XF h.p8.row h.map⟩
def my.flat{B:Nat}{D:Nat->Prop}{W:World}{c:Nat}{p:iJ}{m:Value}{l:List gM}{seen:List (List UInt8)}{a:List gM}{y:gM}{css:List (List Value)}{q:iJ}{b cap d:Nat}(h:my B D W c p m l seen a y css q b cap d):css.flatten.length=a.length*22:=by
 rw[lK css h.k,h.ecss]
def Au{W:World}{B k n b cap:Nat}{T:TypeId}{a cs:List Value}(h:W.ownsRow B T k (.slice (J b) n cap) n (a++cs))(j:Nat)(q:j<cs.length)(u:Value):(W.setCell ⟨b,a.length+j,none⟩ u).ownsRow B T k (.slice (J b) n cap) n (a++cs.set j u):=by
 obtain⟨h1,h2⟩:=h;refine⟨by rw[<- h1];simp,VS ?_⟩
 obtain ⟨e,_⟩|⟨g,c,p,e,d,f,i,l,m,o⟩:=h2
 .cases e
 .cases e
  refine⟨b,cap,_,rfl,d,gG f (a.length+j) u,i,l,by simpa using m,?_⟩;rw[Array.toList_setIfInBounds,List.take_set,o,fO,aj (by omega),dR]
def my.store{B:Nat}{D:Nat->Prop}{W:World}{c:Nat}{p:iJ}{m:Value}{l:List gM}{seen:List (List UInt8)}{j:List gM}{y:gM}{css:List (List Value)}{q:iJ}{o cap r:Nat}(h:my B D W c p m l seen j y css q o cap r){off:Nat}{u:Value}{s2:gW}(f:off<22)
 (g:(gX y.s q.a q.n q.c).set off u=gX s2 q.a q.n q.c)(hgl:s2.gA.size<=1000000):my B D (W.setCell ⟨o,j.length*22+off,none⟩ u) c p m (j++[⟨s2,y.zs⟩]) seen j ⟨s2,y.zs⟩ css q o cap r:=by
 obtain⟨t,v,w⟩:=h.ne;have d:=Au h.row off f u;rw[h.flat,g]at d
 exact⟨rfl,h.ep,h.ecss,h.k,d,h.p8.keep (fun b hb=>iS (fun e=>t (by rw[hb,e]))) h.p8.inD,h.qn,fun i x cs h1 h2=>iD.kept (h.rep i x cs h1 h2) (fun b hb=>iS (fun e=>hb.2.2 (by rw[e];exact h.dbb))) (fun b hb=>⟨hb.1,by simpa using hb.2.1,hb.2.2⟩),
  h.dbb,hgl,h.em,h.map.block (iS v),h.dbm,h.bmB⟩
def my.film{B:Nat}{D:Nat->Prop}{W W':World}{c:Nat}{p:iJ}{m:Value}{l:List gM}{seen:List (List UInt8)}{r:List gM}{y:gM}{css:List (List Value)}{q:iJ}{o cap t:Nat}(h:my B D W c p m l seen r y css q o cap t){u:List Int}{g2 a:Nat}
 (j:W'.ownsRow B 60 3 (.slice (J g2) (q.n+1) a) (q.n+1) (y.zs.map (Value.int .i64)++u.map (Value.int .i64)))(g:nI W W' q.v g2):
 my B (fun b=>D b\/b=g2) (W'.setCell ⟨o,r.length*22+21,none⟩ (.slice (J g2) (q.n+1) a)) (c+1) p m (r++[⟨y.s,y.zs++u⟩]) seen r ⟨y.s,y.zs++u⟩ css ⟨some ⟨g2,0,none⟩,q.n+1,a⟩ o cap t:=by
 obtain⟨C,E,F⟩:=h.ne;have w:=h.bbB;have d:=me h.row (W':=W') (fun b hb=>by cases hb;exact g.kept o w.2 C)
 have z:g2≠o:=by
  have A:=ue d j (by decide) (b:=o) rfl
  exact fun e=>A (by rw[e];rfl)
 have f:=Au d 21 (by show 21<22;omega) (.slice (J g2) (q.n+1) a);rw[h.flat]at f
 refine⟨rfl,h.ep,h.ecss,h.k,f,⟨rE (by rw[aT];exact j) (fun e=>by cases e;exact z rfl) _ _,(fun b e=>by cases e;exact VS rfl),fun e=>by have:q.n+1=0:=e;omega⟩,by have:=h.qn;show q.n+1<=c+1;omega,fun i x cs h1 h2=>iD.kept (h.rep i x cs h1 h2) (fun b hb=>?_) (fun b hb=>⟨hb.1,?_,?_⟩),
  VR h.dbb,h.gA,h.em,h.map.block ((iS E).trans (g.kept t h.map.lt F)),VR h.dbm,h.bmB⟩
 .exact(iS (fun e=>hb.2.2 (by rw[e];exact h.dbb))).trans (g.kept b hb.2.1 (fun e=>hb.2.2 (h.p8.inD b e)))
 .simpa using eb hb.2.1 g.size
 .rintro(e|e)
  .exact hb.2.2 e
  .obtain e2|e2:=g.hat
   .exact hb.2.2 (h.p8.inD b (by rw[e];exact e2))
   .have:=hb.2.1;omega
def nG.own{at_:Int}{B:Nat}{D:Nat->Prop}{W:World}{c:Nat}{p:iJ}{m:Value}{l:List gM}{seen:List (List UInt8)}(h:nG at_ B D W c p m l seen)(hat:at_<=7)(t:c<=1000000):∃css,xq jE 22 58 B D W p l css:=by
 obtain ⟨_,rfl,rfl⟩|⟨e,g,y,css,q,r,cap,v,h⟩|⟨h,_⟩:=h.2
 .exact⟨[],xq.nil _ _ _ _ _ _⟩
 .obtain⟨u,w,z⟩:=h.ne
  have o:=h.ecss;refine⟨css++[gX y.s q.a q.n q.c],?_⟩;rw[h.ep,h.el];refine⟨by show World.ownsRow _ _ _ _ (.slice (J r) (g.length+1) cap) _ _;simpa using h.row,by simp[o],by simp,fun cs d=>?_,fun i x cs f d=>?_,fun b e=>by cases e;exact h.dbb⟩
  .obtain d|d:=bj.1 d
   .exact h.k cs d
   .simp only[aK]at d;subst d;rfl
  .by_cases hi:i<g.length
   .rw[aF hi]at f
    rw[aF (by omega)]at d;exact iD.kept (h.rep i x cs f d) (gN.refl _ _) (fun b hb=>⟨hb.1,hb.2.1,fun e=>by cases e;exact hb.2.2 h.dbb⟩)
   .have j:i=g.length:=by
     have:=(TG.1 f).1;simp at this;omega
    subst j;simp only[bT,bA]at f;rw[<- o]at d;simp only[bT,bA]at d;subst f;subst d;exact h.last (fun b hb=>⟨(gT h.p8.row hb).1,(gT h.p8.row hb).2,fun e=>by cases e;exact u hb⟩) t
 .omega
def qL.ne{B:Nat}{D:Nat->Prop}{W:World}{c:Nat}{p:iJ}{l b:List jd}{y:jd}{css:List (List Value)}{q:iJ}{a cap:Nat}(h:qL B D W c p l b y css q a cap):q.v.ownBlock≠some a:=ue h.row h.p8.row (by decide) rfl
def nH.own{at_:Int}{B:Nat}{D:Nat->Prop}{W:World}{c:Nat}{p:iJ}{l:List jd}(h:nH at_ B D W c p l)(hat:at_<=8)(r:c<=1000000):∃css,xq oB 2 67 B D W p l css:=by
 obtain ⟨_,rfl,rfl⟩|⟨e,g,y,css,q,o,cap,h⟩|⟨h,_⟩:=h.2
 .exact⟨[],xq.nil _ _ _ _ _ _⟩
 .have s:=h.ne
  have m:=h.ecss;refine⟨css++[[.string y.nm,.slice q.a q.n q.c]],?_⟩;rw[h.ep,h.el];refine⟨by show World.ownsRow _ _ _ _ (.slice (J o) (g.length+1) cap) _ _;simpa using h.row,by simp[m],by simp,fun cs d=>?_,fun i x cs f d=>?_,fun b e=>by cases e;exact h.dbb⟩
  .obtain d|d:=bj.1 d
   .exact h.k cs d
   .simp only[aK]at d;subst d;rfl
  .by_cases hi:i<g.length
   .rw[aF hi]at f
    rw[aF (by omega)]at d;exact ky.kept (h.rep i x cs f d) (gN.refl _ _) (fun b hb=>⟨hb.1,hb.2.1,fun e=>by cases e;exact hb.2.2 h.dbb⟩)
   .have j:i=g.length:=by
     have:=(TG.1 f).1;simp at this;omega
    subst j;simp only[bT,bA]at f;rw[<- m]at d;simp only[bT,bA]at d;subst f;subst d;exact h.last (fun b hb=>⟨(gT h.p8.row hb).1,(gT h.p8.row hb).2,fun e=>by cases e;exact s hb⟩) r
 .omega
def qL.flat{B:Nat}{D:Nat->Prop}{W:World}{c:Nat}{p:iJ}{l a:List jd}{y:jd}{css:List (List Value)}{q:iJ}{b cap:Nat}(h:qL B D W c p l a y css q b cap):css.flatten.length=a.length*2:=by
 rw[lK css h.k,h.ecss]
def qL.film{B:Nat}{D:Nat->Prop}{W W':World}{c:Nat}{p:iJ}{l o:List jd}{y:jd}{css:List (List Value)}{q:iJ}{m cap:Nat}(h:qL B D W c p l o y css q m cap){r:List Int}{g2 a:Nat}
 (j:W'.ownsRow B 64 3 (.slice (J g2) (q.n+1) a) (q.n+1) (y.zs.map (Value.int .i64)++r.map (Value.int .i64)))(g:nI W W' q.v g2):
 qL B (fun b=>D b\/b=g2) (W'.setCell ⟨m,o.length*2+1,none⟩ (.slice (J g2) (q.n+1) a)) (c+1) p (o++[⟨y.nm,y.zs++r⟩]) o ⟨y.nm,y.zs++r⟩ css ⟨some ⟨g2,0,none⟩,q.n+1,a⟩ m cap:=by
 have w:=h.ne;have s:=h.bbB;have d:=me h.row (W':=W') (fun b hb=>by cases hb;exact g.kept m s.2 w)
 have t:g2≠m:=by
  have u:=ue d j (by decide) (b:=m) rfl
  exact fun e=>u (by rw[e];rfl)
 have f:=Au d 1 (by show 1<2;omega) (.slice (J g2) (q.n+1) a);rw[h.flat]at f;refine⟨rfl,h.ep,h.ecss,h.k,f,⟨rE (by rw[aT];exact j) (fun e=>by cases e;exact t rfl) _ _,(fun b e=>by cases e;exact VS rfl),fun e=>by have:q.n+1=0:=e;omega⟩,by have:=h.qn;show q.n+1<=c+1;omega,fun i x cs h1 h2=>ky.kept (h.rep i x cs h1 h2) (fun b hb=>?_) (fun b hb=>⟨hb.1,?_,?_⟩),VR h.dbb,h.nm⟩
 .exact(iS (fun e=>hb.2.2 (by rw[e];exact h.dbb))).trans (g.kept b hb.2.1 (fun e=>hb.2.2 (h.p8.inD b e)))
 .simpa using eb hb.2.1 g.size
 .rintro(e|e)
  .exact hb.2.2 e
  .obtain e2|e2:=g.hat
   .exact hb.2.2 (h.p8.inD b (by rw[e];exact e2))
   .have:=hb.2.1;omega
def xq.snoc{α:Type}{R:pB α}{k:Nat}(ok:kR k R){T:TypeId}{B:Nat}{D:Nat->Prop}{W W':World}{p:iJ}{l:List α}{css:List (List Value)}(h:xq R k T B D W p l css){g2:Nat}(a:nI W W' p.v g2):∀(i:Nat)(x:α)(cs:List Value),l[i]? =some x->css[i]? =some cs->R (fun b=>B<=b/\b<W.heap.size/\b≠g2) W' x cs:=
 fun i x cs h1 h2=>ok.kept (h.rep i x cs h1 h2) (fun b hb=>a.kept b hb.2.1 hb.2.2) (fun b hb=>⟨hb.1,hb.2.1,fun e=>by
  obtain e2|e2:=a.hat
  .exact hb.2.2 (by rw[e2,e])
  .have:=hb.2.1;omega⟩)
def Bp{B g:Nat}{y:Int}{c:Nat}{D:Nat->Prop}{r:jL}{w W W' p:World}{f v s k:iJ}{m:Value}{css:List (List Value)}{i g2 cap q:Nat}{F:Option jL}(N:F=some ⟨{r.x with l:=r.x.l++[lJ i]},7,[]⟩)(hb:Below w w W)(hA:jm W g r.x y f v s k m)(hL:AX B g c D r W f v s k m)
 (hO:xq jE 22 58 B D W s r.x.l css)(hrow:W'.ownsRow B 58 22 (.slice (J g2) (s.n+1) cap) (s.n+1) (css.flatten++gX (lJ i).s none 0 0))(hgr:nI W W' s.v g2)(hg2:B<=g2)(hat:r.at_<=7)(h1:c<=100001)(hg0:B<=w.heap.size)
 (hA2:jm p g r.x y f v ⟨some ⟨g2,0,none⟩,s.n+1,cap⟩ k (.map (some q)))(hm:oC p q [])(hbm:W'.heap.size<=q)(hk2:∀b,b≠g->b<W'.heap.size->p.heap[b]? =W'.heap[b]?)(hbe:Below g W' p):
 iE B g y c D F w (.returned (.tuple #[])) p:=by
 have L:=hL.gB;have hlt:=TK hA
 have K:∀b,(b=g\/b=g2\/b=q)->D b\/w.heap.size<=b:=by
  rintro b (e|e|e)
  .exact VR (by rw[e];exact hL.dg)
  .obtain e2|e2:=hgr.hat
   .exact VR (by rw[e];exact hO.inD g2 e2)
   .exact VS (by have:=hb.size;omega)
  .exact VS (by have:=hb.size;have:=hgr.size;omega)
 have R:=hbe.size;have Q:=hgr.size;have P:=hb.size
 have h:∀b,B<=b->b<W.heap.size->b≠g2->Fz B (fun b=>b=g\/b=g2\/b=q) p b:=fun b h2 h3 H=>⟨h2,by omega,by
  rintro(e|e|e)
  .omega
  .exact H e
  .omega⟩
 have d:∀b,B<=b->b<W.heap.size->s.v.ownBlock≠some b->p.heap[b]? =W.heap[b]? :=fun b h2 h3 H=>(hk2 b (by omega) (by omega)).trans (hgr.kept b h3 H)
 have C:gN (Fz B D W) W p:=fun b hb=>d b hb.1 hb.2.1 (fun e=>hb.2.2 (hO.inD b e))
 have E:∀b,Fz B D W b->Fz B (fun b=>b=g\/b=g2\/b=q) p b:=fun b hb=>h b hb.1 hb.2.1 (fun e=>by
  obtain e2|e2:=hgr.hat
  .exact hb.2.2 (hO.inD b (by rw[e];exact e2))
  .have:=hb.2.1;omega)
 have u:=me hrow (W':=p) (fun b e=>by cases e;exact hk2 g2 (by omega) hgr.lt);refine⟨(hb.mono (by omega)).trans ((hgr.below (by omega) (fun b e=>by have:=(gT hO.row e).1;omega)).trans hbe),fun b z A=>?_,VR ⟨_,N,rfl,fun b=>b=g\/b=g2\/b=q,K,⟨f,v,⟨some ⟨g2,0,none⟩,s.n+1,cap⟩,k,.map (some q),hA2,L,by omega,VR rfl,fun b hb=>?_,(by dsimp only;omega),(by dsimp only;omega),hL.nm,?_,?_,?_,?_⟩⟩⟩
 .have o:b≠g:=fun e=>A (by rw[e];exact hL.dg)
  have M:b<W.heap.size:=eb z hb.size;exact(hk2 b o (by omega)).trans ((hgr.kept b M (fun e=>A (hO.inD b e))).trans (hb.block b z))
 .obtain e|e|e:=hb
  .exact⟨VR e,by rw[e];omega⟩
  .exact⟨VS (by omega),by have:=hgr.lt;omega⟩
  .exact⟨VS (by omega),by rw[e];exact hm.lt⟩
 .exact hL.fs.close (by dsimp only;omega) (by omega) C E (fun e b t=>by
   have a:=gT (hL.fs.own (by omega)).row t;have o:=ue (hL.fs.own (by omega)).row hO.row (by decide) t
   exact⟨d b a.1 a.2 o,h b a.1 a.2 (fun e=>by
    obtain e2|e2:=hgr.hat
    .exact o (by rw[e2,e])
    .omega)⟩)
 .exact hL.ws.close (by dsimp only;omega) (by omega) C E (fun e b t=>by
   have a:=gT (hL.ws.own (by omega)).row t;have o:=ue (hL.ws.own (by omega)).row hO.row (by decide) t
   exact⟨d b a.1 a.2 o,h b a.1 a.2 (fun e=>by
    obtain e2|e2:=hgr.hat
    .exact o (by rw[e2,e])
    .omega)⟩)
 .refine⟨by have:=hL.l.1;show s.n+1<=c+1;omega,VS (VR ⟨rfl,r.x.l,lJ i,css,ij,g2,cap,q,?_⟩)⟩
  refine⟨rfl,by rw[hO.n],hO.len,hO.k,by rw[<- hO.n];exact u,sT.nil _ _ _ _ _,aA _,fun j x cs h2 h3=>iD.kept (hO.snoc iD hgr j x cs h2 h3) (fun b hb=>hk2 b (by omega) (by omega)) (fun b hb=>h b hb.1 hb.2.1 hb.2.2),VS (VR rfl),by show(0:Nat)<=_;omega,rfl,hm,VS (VS rfl),by omega⟩
 .exact hL.cf.wait (by omega) (by dsimp only;omega) (by omega)
def DI{B g:Nat}{o:Int}{c:Nat}{D:Nat->Prop}{r:jL}{i W W':World}{f v s k:iJ}{m:Value}{css:List (List Value)}{nm:ByteArray}{g2 cap:Nat}{z:Option jL}(H:z=some ⟨{r.x with cf:=r.x.cf++[⟨nm,[]⟩]},8,[]⟩)(hnm:nm.size<=1000000)(hb:Below i i W)(hA:jm W g r.x o f v s k m)(hL:AX B g c D r W f v s k m)
 (hO:xq oB 2 67 B D W k r.x.cf css)(hrow:W'.ownsRow B 67 2 (.slice (J g2) (k.n+1) cap) (k.n+1) (css.flatten++[.string nm,.slice none 0 0]))(hgr:nI W W' k.v g2)(hg2:B<=g2)(hat:r.at_<=8)(h1:c<=100001)(hg0:B<=i.heap.size):
 iE B g o c D z i (.returned (.tuple #[])) (W'.setCell ⟨g,8,none⟩ (.slice (J g2) (k.n+1) cap)):=by
 have y:=hL.gB;have hlt:=TK hA
 have t:k.v.ownBlock≠some g:=fun e=>by have:=(gT hO.row e).1;omega
 have C:jm W' g r.x o f v s k m:=(hgr.kept g hlt t).trans hA
 have E:∀b,(b=g\/b=g2)->D b\/i.heap.size<=b:=by
  rintro b (e|e)
  .exact VR (by rw[e];exact hL.dg)
  .obtain e2|e2:=hgr.hat
   .exact VR (by rw[e];exact hO.inD g2 e2)
   .exact VS (by have:=hb.size;omega)
 obtain⟨p,q⟩:=NY y hO.inD hgr;have K:=hgr.size
 have d:∀b,B<=b->b<W.heap.size->k.v.ownBlock≠some b->W'.heap[b]? =W.heap[b]? /\Fz B (fun b=>b=g\/b=g2) W' b:=fun b h2 h3 A=>⟨hgr.kept b h3 A,h2,by omega,by
  rintro(e|e)
  .omega
  .obtain e2|e2:=hgr.hat
   .exact A (by rw[e2,e])
   .omega⟩
 refine⟨kZ ((hb.mono (by omega)).trans (hgr.below (by omega) (fun b e=>by have:=(gT hO.row e).1;omega))) (ag _),fun b u w=>?_,VR ⟨_,H,rfl,fun b=>b=g\/b=g2,E,⟨f,v,s,⟨some ⟨g2,0,none⟩,k.n+1,cap⟩,m,?_,?_⟩⟩⟩
 .exact(iS (fun e=>w (by rw[e];exact hL.dg))).trans ((hgr.kept b (eb u hb.size) (fun e=>w (hO.inD b e))).trans (hb.block b u))
 .exact nJ C rfl
 .have key:AX B g (c+1) (fun b=>b=g\/b=g2) ⟨{r.x with cf:=r.x.cf++[⟨nm,[]⟩]},8,[]⟩ W' f v s ⟨some ⟨g2,0,none⟩,k.n+1,cap⟩ m:=by
   refine⟨y,by omega,VR rfl,fun b hb=>?_,(by dsimp only;omega),(by dsimp only;omega),hL.nm,?_,?_,?_,?_⟩
   .obtain e|e:=hb
    .exact⟨VR e,by rw[e];omega⟩
    .exact⟨VS (by omega),by have:=hgr.lt;omega⟩
   .exact hL.fs.close (by dsimp only;omega) (by omega) p q (fun e b a=>d b (gT (hL.fs.own (by omega)).row a).1 (gT (hL.fs.own (by omega)).row a).2 (ue (hL.fs.own (by omega)).row hO.row (by decide) a))
   .exact hL.ws.close (by dsimp only;omega) (by omega) p q (fun e b a=>d b (gT (hL.ws.own (by omega)).row a).1 (gT (hL.ws.own (by omega)).row a).2 (ue (hL.ws.own (by omega)).row hO.row (by decide) a))
   .refine hL.l.close (by show(7:Int) <8;decide) (by omega) (by omega) p q (fun e b h2 h3=>d b h2 h3 ?_)
    have F:k=ij:=by
     obtain ⟨_,h,_⟩|⟨h,_⟩|⟨h,_⟩:=hL.cf.2
     .exact h
     .omega
     .omega
    rw[F];intro e;cases e
   .refine⟨by have:=hL.cf.1;show k.n+1<=c+1;omega,VS (VR ⟨rfl,r.x.cf,⟨nm,[]⟩,css,ij,g2,cap,?_⟩)⟩
    exact⟨rfl,by rw[hO.n],hO.len,hO.k,by rw[<- hO.n];exact hrow,sT.nil _ _ _ _ _,aA _,fun j x cs h2 h3=>ky.kept (hO.snoc ky hgr j x cs h2 h3) (gN.refl _ _) (fun b hb=>⟨hb.1,by omega,by
     rintro(e|e)
     .have:=hb.1;omega
     .exact hb.2.2 e⟩),VS rfl,hnm⟩
  exact key.keep (fun b hb _=>iS (by omega)) (by simp)
def my.mapSet{B:Nat}{D:Nat->Prop}{W W':World}{c:Nat}{p:iJ}{m:Value}{l:List gM}{seen a:List (List UInt8)}{n:List gM}{y:gM}{css:List (List Value)}{q:iJ}{f cap d:Nat}(h:my B D W c p m l seen n y css q f cap d)(g:∀b,b<W.heap.size->b≠d->W'.heap[b]? =W.heap[b]?)(r:W.heap.size<=W'.heap.size)(o:oC W' d (a.map bs)):my B D W' c p m l a n y css q f cap d:=by
 obtain⟨u,s,t⟩:=h.ne;have j:=h.bbB
 exact⟨h.el,h.ep,h.ecss,h.k,me h.row (fun b hb=>by cases hb;exact g f j.2 (fun e=>s e.symm)),h.p8.keep (fun b hb=>g b (gT h.p8.row hb).2 (fun e=>t (by rw[hb,e]))) h.p8.inD,h.qn,
  fun i x cs h1 h2=>iD.kept (h.rep i x cs h1 h2) (fun b hb=>g b hb.2.1 (fun e=>hb.2.2 (by rw[e];exact h.dbm))) (fun b hb=>⟨hb.1,eb hb.2.1 r,hb.2.2⟩),h.dbb,h.gA,h.em,o,h.dbm,h.bmB⟩
def my.succ{B:Nat}{D:Nat->Prop}{W:World}{c:Nat}{p:iJ}{m:Value}{l:List gM}{seen:List (List UInt8)}{d:List gM}{y:gM}{css:List (List Value)}{q:iJ}{a cap b:Nat}(h:my B D W c p m l seen d y css q a cap b):my B D W (c+1) p m l seen d y css q a cap b:=
 ⟨h.el,h.ep,h.ecss,h.k,h.row,h.p8,by have:=h.qn;omega,h.rep,h.dbb,h.gA,h.em,h.map,h.dbm,h.bmB⟩
def xr{B g c:Nat}{D:Nat->Prop}{r:jL}{d W:World}{f v s k:iJ}{m:Value}{i:List gM}{y:gM}{css:List (List Value)}{q:iJ}{j cap o off:Nat}{u:Value}{s2:gW}{w:List UInt8}{A:Option jL}(K:A=some ⟨{r.x with l:=i++[⟨s2,y.zs⟩]},7,r.seen++[w]⟩)(hat:r.at_=7)(hA:jm d g r.x 7 f v s k m)(hL:AX B g c D r d f v s k m)
 (hS:my B D d c s m r.x.l r.seen i y css q j cap o)(hk:∀b,b<d.heap.size->b≠o->W.heap[b]? =d.heap[b]?)(hbe:Below B d W)(hm:oC W o ((r.seen++[w]).map bs))(hoff:off<22)
 (hset:(gX y.s q.a q.n q.c).set off u=gX s2 q.a q.n q.c)(hgl:s2.gA.size<=1000000)(h1:c<=100001):
 iE B g 7 c D A d (.returned (.tuple #[])) (W.setCell ⟨j,i.length*22+off,none⟩ u):=by
 have H:=hL.gB;have F:=hS.bbB;have L:=hS.bmB;have hlt:=TK hA;have C:=hbe.size;have E:=((hS.mapSet hk C hm).store hoff hset hgl).succ
 have z:∀b,b<d.heap.size-> ¬D b->(W.setCell ⟨j,i.length*22+off,none⟩ u).heap[b]? =d.heap[b]? :=fun b h2 h3=>(iS (fun e=>h3 (by rw[e];exact hS.dbb))).trans (hk b h2 (fun e=>h3 (by rw[e];exact hS.dbm)))
 have p:gN (Fz B D d) d (W.setCell ⟨j,i.length*22+off,none⟩ u):=fun b hb=>z b hb.2.1 hb.2.2
 have t:∀b,Fz B D d b->Fz B D (W.setCell ⟨j,i.length*22+off,none⟩ u) b:=fun b hb=>⟨hb.1,by simpa using eb hb.2.1 C,hb.2.2⟩
 refine⟨(kZ hbe F.1).mono (by omega),z,VR ⟨_,K,rfl,D,fun b h=>VR h,f,v,s,k,m,?_,H,by omega,hL.dg,fun b hb=>⟨(hL.own b hb).1,by simpa using eb (hL.own b hb).2 C⟩,(by dsimp only;omega),(by dsimp only;omega),hL.nm,?_,?_,?_,?_⟩⟩
 .exact(iS (by omega)).trans ((hk g hlt (by omega)).trans hA)
 .exact hL.fs.close (by dsimp only;omega) (by omega) p t (fun e=>by omega)
 .exact hL.ws.close (by dsimp only;omega) (by omega) p t (fun e=>by omega)
 .exact⟨by have:=hL.l.1;omega,VS (VR ⟨rfl,i,_,css,q,j,cap,o,E⟩)⟩
 .exact hL.cf.wait (by omega) (by show(7:Int) <8;decide) (by omega)
def ID{B g c:Nat}{D:Nat->Prop}{r:jL}{j W W':World}{f v s k:iJ}{m:Value}{d:List gM}{y:gM}{css:List (List Value)}{q:iJ}{i cap A g2 a:Nat}{F:List Int}{z:Option jL}(H:z=some ⟨{r.x with l:=d++[⟨y.s,y.zs++F⟩]},7,r.seen⟩)(hat:r.at_=7)(hb:Below j j W)(hA:jm W g r.x 7 f v s k m)(hL:AX B g c D r W f v s k m)
 (hS:my B D W c s m r.x.l r.seen d y css q i cap A)(hrow:W'.ownsRow B 60 3 (.slice (J g2) (q.n+1) a) (q.n+1) (y.zs.map (Value.int .i64)++F.map (Value.int .i64)))(hgr:nI W W' q.v g2)(hg2:B<=g2)(hg0:B<=j.heap.size)(h1:c<=100001):
 iE B g 7 c D z j (.returned (.tuple #[])) (W'.setCell ⟨i,d.length*22+21,none⟩ (.slice (J g2) (q.n+1) a)):=by
 have E:=hL.gB;have K:=hS.bbB;have hlt:=TK hA;have w:=hgr.size;have L:=hb.size
 have o:q.v.ownBlock≠some g:=fun e=>by have:=(gT hS.p8.row e).1;omega
 have C:=hS.film hrow hgr
 have u:∀b,b<W.heap.size-> ¬D b->(W'.setCell ⟨i,d.length*22+21,none⟩ (.slice (J g2) (q.n+1) a)).heap[b]? =W.heap[b]? :=fun b h2 h3=>(iS (fun e=>h3 (by rw[e];exact hS.dbb))).trans (hgr.kept b h2 (fun e=>h3 (hS.p8.inD b e)))
 have p:gN (Fz B D W) W (W'.setCell ⟨i,d.length*22+21,none⟩ (.slice (J g2) (q.n+1) a)):=fun b hb=>u b hb.2.1 hb.2.2
 have t:∀b,Fz B D W b->Fz B (fun b=>D b\/b=g2) (W'.setCell ⟨i,d.length*22+21,none⟩ (.slice (J g2) (q.n+1) a)) b:=fun b hb=>⟨hb.1,by simpa using eb hb.2.1 w,by
  rintro(e|e)
  .exact hb.2.2 e
  .obtain e2|e2:=hgr.hat
   .exact hb.2.2 (hS.p8.inD b (by rw[e];exact e2))
   .have:=hb.2.1;omega⟩
 refine⟨(hb.mono (by omega)).trans (kZ (hgr.below (g:=g) (by omega) (fun b e=>by have:=(gT hS.p8.row e).1;omega)) (by omega)),fun b h2 h3=>(u b (by omega) h3).trans (hb.block b h2),VR ⟨_,H,rfl,fun b=>D b\/b=g2,fun b h=>?_,f,v,s,k,m,?_,E,by omega,VR hL.dg,fun b hb=>?_,(by dsimp only;omega),(by dsimp only;omega),hL.nm,?_,?_,?_,?_⟩⟩
 .obtain h|h:=h
  .exact VR h
  .obtain e2|e2:=hgr.hat
   .exact VR (hS.p8.inD b (by rw[h];exact e2))
   .exact VS (by omega)
 .exact(iS (by omega)).trans ((hgr.kept g hlt o).trans hA)
 .obtain hb|hb:=hb
  .exact⟨(hL.own b hb).1,by simpa using eb (hL.own b hb).2 w⟩
  .exact⟨VS (by omega),by have:=hgr.lt;simp;omega⟩
 .exact hL.fs.close (by dsimp only;omega) (by omega) p t (fun e=>by omega)
 .exact hL.ws.close (by dsimp only;omega) (by omega) p t (fun e=>by omega)
 .exact⟨by have:=hL.l.1;omega,VS (VR ⟨rfl,d,_,css,_,i,cap,A,C⟩)⟩
 .exact hL.cf.wait (by omega) (by show(7:Int) <8;decide) (by omega)
def DJ{B g c:Nat}{D:Nat->Prop}{r:jL}{p W W':World}{f v s k:iJ}{m:Value}{d:List jd}{y:jd}{css:List (List Value)}{q:iJ}{i cap g2 a:Nat}{E:List Int}{z:Option jL}(F:z=some ⟨{r.x with cf:=d++[⟨y.nm,y.zs++E⟩]},8,r.seen⟩)(hat:r.at_=8)(hb:Below p p W)(hA:jm W g r.x 8 f v s k m)(hL:AX B g c D r W f v s k m)
 (hS:qL B D W c k r.x.cf d y css q i cap)(hrow:W'.ownsRow B 64 3 (.slice (J g2) (q.n+1) a) (q.n+1) (y.zs.map (Value.int .i64)++E.map (Value.int .i64)))(hgr:nI W W' q.v g2)(hg2:B<=g2)(hg0:B<=p.heap.size)(h1:c<=100001):
 iE B g 8 c D z p (.returned (.tuple #[])) (W'.setCell ⟨i,d.length*2+1,none⟩ (.slice (J g2) (q.n+1) a)):=by
 have C:=hL.gB;have H:=hS.bbB;have hlt:=TK hA;have w:=hgr.size;have K:=hb.size
 have t:q.v.ownBlock≠some g:=fun e=>by have:=(gT hS.p8.row e).1;omega
 have A:=hS.film hrow hgr
 have u:∀b,b<W.heap.size-> ¬D b->(W'.setCell ⟨i,d.length*2+1,none⟩ (.slice (J g2) (q.n+1) a)).heap[b]? =W.heap[b]? :=fun b h2 h3=>(iS (fun e=>h3 (by rw[e];exact hS.dbb))).trans (hgr.kept b h2 (fun e=>h3 (hS.p8.inD b e)))
 have j:gN (Fz B D W) W (W'.setCell ⟨i,d.length*2+1,none⟩ (.slice (J g2) (q.n+1) a)):=fun b hb=>u b hb.2.1 hb.2.2
 have o:∀b,Fz B D W b->Fz B (fun b=>D b\/b=g2) (W'.setCell ⟨i,d.length*2+1,none⟩ (.slice (J g2) (q.n+1) a)) b:=fun b hb=>⟨hb.1,by simpa using eb hb.2.1 w,by
  rintro(e|e)
  .exact hb.2.2 e
  .obtain e2|e2:=hgr.hat
   .exact hb.2.2 (hS.p8.inD b (by rw[e];exact e2))
   .have:=hb.2.1;omega⟩
 refine⟨(hb.mono (by omega)).trans (kZ (hgr.below (g:=g) (by omega) (fun b e=>by have:=(gT hS.p8.row e).1;omega)) (by omega)),fun b h2 h3=>(u b (by omega) h3).trans (hb.block b h2),VR ⟨_,F,rfl,fun b=>D b\/b=g2,fun b h=>?_,f,v,s,k,m,?_,C,by omega,VR hL.dg,fun b hb=>?_,(by dsimp only;omega),(by dsimp only;omega),hL.nm,?_,?_,?_,?_⟩⟩
 .obtain h|h:=h
  .exact VR h
  .obtain e2|e2:=hgr.hat
   .exact VR (hS.p8.inD b (by rw[h];exact e2))
   .exact VS (by omega)
 .exact(iS (by omega)).trans ((hgr.kept g hlt t).trans hA)
 .obtain hb|hb:=hb
  .exact⟨(hL.own b hb).1,by simpa using eb (hL.own b hb).2 w⟩
  .exact⟨VS (by omega),by have:=hgr.lt;simp;omega⟩
 .exact hL.fs.close (by dsimp only;omega) (by omega) j o (fun e=>by omega)
 .exact hL.ws.close (by dsimp only;omega) (by omega) j o (fun e=>by omega)
 .exact hL.l.close (by show(7:Int) <8;decide) (by omega) (by omega) j o (fun e=>by omega)
 .exact⟨by have:=hL.cf.1;omega,VS (VR ⟨rfl,d,_,css,_,i,cap,A⟩)⟩
def lF{ws:List (List UInt8)}{e:Ending}(h:JL ws e):(∃v,ws=[v]/\e=.returned (.string (bs v)))\/(ws.length≠1/\e=iX):=by
 match ws,h with
 |[],h=>exact VS ⟨by simp,h⟩
 |[v],h=>exact VR ⟨v,rfl,h⟩
 |v::u::r,h=>exact VS ⟨by simp,h⟩
def oX{x:gR}{k:Nat}{ws:List (List UInt8)}(a:k<5\/k=7\/k=8)(h:ws.length≠1):jk x k ws=none:=by
 match ws,h with
 |[],_=>obtain a|rfl|rfl:=a
        .match k,a with
         |0,_=>rfl
         |1,_=>rfl
         |2,_=>rfl
         |3,_=>rfl
         |4,_=>rfl
         |k+5,a=>omega
        .rfl
        .rfl
 |[v],h=>simp at h
 |v::u::r,_=>obtain a|rfl|rfl:=a
             .match k,a with
              |0,_=>rfl
              |1,_=>rfl
              |2,_=>rfl
              |3,_=>rfl
              |4,_=>rfl
              |k+5,a=>omega
             .rfl
             .rfl
def xt(x:gR)(v:List UInt8):jk x 1 [v]=if v=lQ then some x else(VZ v 6).map fun n=>{x with i9:=n}:=rfl
def la{x:gR}{k:Nat}{ws:List (List UInt8)}(h:jk x k ws=none):((jk x k ws).map fun y=>(⟨y,(k:Int),[]⟩:jL))=none:=by rw[h];rfl
def map_some{x y:gR}{k:Nat}{ws:List (List UInt8)}(h:jk x k ws=some y):((jk x k ws).map fun y=>(⟨y,(k:Int),[]⟩:jL))=some ⟨y,(k:Int),[]⟩:=by rw[h];rfl
def jm.cell{W:World}{g:Nat}{x:gR}{a:Int}{f v s k:iJ}{m:Value}(h:jm W g x a f v s k m)(j:Nat):W.cell? ⟨g,j,none⟩=(iw x f v s k++[.int .i64 a,m])[j]? /\W.frozen? ⟨g,j,none⟩=false:=by
 have:=VV h j;rw[bo]at this;exact⟨this,gD h j⟩
def jm.go{W W':World}{g:Nat}{x:gR}{a:Int}{f v s k:iJ}{m:Value}(h:jm W g x a f v s k m)(hb:Below W W W'):jm W' g x a f v s k m:=(hb.block g (TK h)).trans h
def AX.go{B g c:Nat}{D:Nat->Prop}{r:jL}{W W':World}{f v s k:iJ}{m:Value}(h:AX B g c D r W f v s k m)(hb:Below W W W'):AX B g c D r W' f v s k m:=h.keep (fun b _ a=>hb.block b a) hb.size
def FL{B g:Nat}{e:Int}{c:Nat}{D:Nat->Prop}{r:jL}{d W:World}{f v s k:iJ}{m:Value}{n:Nat}{i:Option jL}(q:i=some ⟨r.x,(n:Int),[]⟩)(hb:Below d d W)(p:jm W g r.x e f v s k m)(a:AX B g c D r W f v s k m)
 (hat:r.at_<5)(t:n<5)(h1:c<=100001)(o:g<=d.heap.size):iE B g e c D i d (.returned (.tuple #[])) W:=
 ⟨hb.mono o,fun b j _=>hb.block b j,VR ⟨_,q,rfl,D,fun _ h=>VR h,f,v,s,k,m,p,a.gB,by omega,a.dg,a.own,by show(-1:Int)<=(n:Int);omega,by show(n:Int)<=9;omega,a.nm,
   a.fs.wait (by omega) (by show(n:Int) <5;omega) (by omega),a.ws.wait (by omega) (by show(n:Int) <6;omega) (by omega),a.l.wait (by omega) (by show(n:Int) <7;omega) (by omega),a.cf.wait (by omega) (by show(n:Int) <8;omega) (by omega)⟩⟩
def Tb(l:List UInt8):(bs l).size=l.length:=rfl
def LM{B g:Nat}{d:Int}{cc:Nat}{D:Nat->Prop}{r:jL}{W:World}{ws:List (List UInt8)}{a:Option Addr}{n c:Nat}(h:vM B g d cc D r W)(hw:ua W a n c ws W)(w:∀s∈ws,s.length<=100000)(hat:r.at_<5)(H:cc<=100001)(M:B<=W.heap.size)(u:GW W):
 Calls prog 297 #[U g,Z a n c] W (iE B g d cc D ((jk r.x 0 ws).map fun y=>⟨y,((0:Nat):Int),[]⟩) W):=by
 obtain⟨f,v,s,k,m,q,i⟩:=h;have K:=i.gB;have j:=O q;have A:=O i;have L:=O u;have l:=O hat;have C:=O w;have E:=O hw;clear q i u hat w hw;go_enter func297,ntmps297;go_wp2_with fail;refine(nF ws a n c _ W E).mono ?_;rintro e N ⟨t,rfl⟩
 obtain ⟨x,rfl,rfl⟩|⟨z,rfl⟩:=lF t
 .have F:=O (C x (by simp))
  obtain⟨c0,f0⟩:=j.cell 0;clear t;go_wp2;go_end0;exact qM (map_some rfl) (TH _ _) j A rfl ⟨rfl,rfl,rfl,rfl⟩ (by have:=F.out;show(bs x).size<=_;rw[Tb];omega) l (by omega) H (by omega)
 .have o:=O (show iE B g d cc D ((jk r.x 0 ws).map fun y=>(⟨y,((0:Nat):Int),[]⟩:jL)) W iX W from iE.bad (la (oX (by omega) z)) (TH _ _) (by omega))
  have b:=o.out;unfold iX at b⊢;have p:=O b;clear b o;go_wp2_with fail;exact⟨rfl,p⟩
def IE{B g:Nat}{j:Int}{cc:Nat}{D:Nat->Prop}{r:jL}{W:World}{ws:List (List UInt8)}{a:Option Addr}{n c:Nat}(h:vM B g j cc D r W)(hw:ua W a n c ws W)(E:∀s∈ws,s.length<=100000)(hat:r.at_<5)(R:cc<=100001)(hB:B<=W.heap.size)(C:GW W):
 Calls prog 299 #[U g,Z a n c] W (iE B g j cc D ((jk r.x 2 ws).map fun y=>⟨y,((2:Nat):Int),[]⟩) W):=by
 obtain⟨f,v,s,k,m,A,q⟩:=h;have X:=q.gB;have K:=O A;have L:=O q;have M:=O C;have u:=O hat;have N:=O E;have Q:=O hw;clear A q C hat E hw;go_enter func299,ntmps299;go_wp2_with fail;refine(nF ws a n c _ W Q).mono ?_;rintro e w1 ⟨i,rfl⟩
 obtain ⟨x,rfl,rfl⟩|⟨F,rfl⟩:=lF i
 .have S:=N x (by simp)
  clear i;go_wp2_with fail;refine(mL x 6 W S (by omega) M).mono ?_;rintro e T ⟨i,d⟩
  cases hv:VZ x 6 with
  |none=>
   unfold kX at i;rw[hv]at i;subst i;have hb:iE B g j cc D ((jk r.x 2 [x]).map fun y=>(⟨y,((2:Nat):Int),[]⟩:jL)) W iX T:=iE.bad (la (by show(VZ x 6).map _=none;rw[hv];rfl)) d (by omega);have b:=hb;clear hb hv d;unfold iX at b⊢;have l:=O b;clear b;go_wp2_with fail;exact⟨rfl,l⟩
  |some z=>
   unfold kX at i;rw[hv]at i;subst i;have o:=K.go d;have p:=O (L.go d);have H:((jk r.x 2 [x]).map fun y=>(⟨y,((2:Nat):Int),[]⟩:jL))=some ⟨{r.x with pb:=z},((2:Nat):Int),[]⟩:=map_some (by show(VZ x 6).map _=_;rw[hv];rfl);obtain⟨c0,f0⟩:=o.cell 2;have t:=O o;have b:=O d;have P:=O H;clear o d H hv;go_wp2;go_end0;exact qM P b t p rfl ⟨rfl,rfl,rfl,rfl⟩ p.nm u (by omega) R (by omega)
 .have w:=O (show iE B g j cc D ((jk r.x 2 ws).map fun y=>(⟨y,((2:Nat):Int),[]⟩:jL)) W iX W from iE.bad (la (oX (by omega) F)) (TH _ _) (by omega))
  have b:=w.out;unfold iX at b⊢;have l:=O b;clear b w;go_wp2_with fail;exact⟨rfl,l⟩
def LN{B g:Nat}{j:Int}{cc:Nat}{D:Nat->Prop}{r:jL}{W:World}{ws:List (List UInt8)}{a:Option Addr}{n c:Nat}(h:vM B g j cc D r W)(hw:ua W a n c ws W)(E:∀s∈ws,s.length<=100000)(hat:r.at_<5)(R:cc<=100001)(hB:B<=W.heap.size)(C:GW W):
 Calls prog 300 #[U g,Z a n c] W (iE B g j cc D ((jk r.x 3 ws).map fun y=>⟨y,((3:Nat):Int),[]⟩) W):=by
 obtain⟨f,v,s,k,m,A,q⟩:=h;have X:=q.gB;have K:=O A;have L:=O q;have M:=O C;have u:=O hat;have N:=O E;have Q:=O hw;clear A q C hat E hw;go_enter func300,ntmps300;go_wp2_with fail;refine(nF ws a n c _ W Q).mono ?_;rintro e w1 ⟨i,rfl⟩
 obtain ⟨x,rfl,rfl⟩|⟨F,rfl⟩:=lF i
 .have S:=N x (by simp)
  clear i;go_wp2_with fail;refine(mL x 0 W S (by omega) M).mono ?_;rintro e T ⟨i,d⟩
  cases hv:VZ x 0 with
  |none=>
   unfold kX at i;rw[hv]at i;subst i;have hb:iE B g j cc D ((jk r.x 3 [x]).map fun y=>(⟨y,((3:Nat):Int),[]⟩:jL)) W iX T:=iE.bad (la (by show(VZ x 0).map _=none;rw[hv];rfl)) d (by omega);have b:=hb;clear hb hv d;unfold iX at b⊢;have l:=O b;clear b;go_wp2_with fail;exact⟨rfl,l⟩
  |some z=>
   unfold kX at i;rw[hv]at i;subst i;have o:=K.go d;have p:=O (L.go d);have H:((jk r.x 3 [x]).map fun y=>(⟨y,((3:Nat):Int),[]⟩:jL))=some ⟨{r.x with stop:=z},((3:Nat):Int),[]⟩:=map_some (by show(VZ x 0).map _=_;rw[hv];rfl);obtain⟨c0,f0⟩:=o.cell 3;have t:=O o;have b:=O d;have P:=O H;clear o d H hv;go_wp2;go_end0;exact qM P b t p rfl ⟨rfl,rfl,rfl,rfl⟩ p.nm u (by omega) R (by omega)
 .have w:=O (show iE B g j cc D ((jk r.x 3 ws).map fun y=>(⟨y,((3:Nat):Int),[]⟩:jL)) W iX W from iE.bad (la (oX (by omega) F)) (TH _ _) (by omega))
  have b:=w.out;unfold iX at b⊢;have l:=O b;clear b w;go_wp2_with fail;exact⟨rfl,l⟩
def DK{B g:Nat}{j:Int}{cc:Nat}{D:Nat->Prop}{r:jL}{W:World}{ws:List (List UInt8)}{a:Option Addr}{n c:Nat}(h:vM B g j cc D r W)(hw:ua W a n c ws W)(E:∀s∈ws,s.length<=100000)(hat:r.at_<5)(R:cc<=100001)(hB:B<=W.heap.size)(C:GW W):
 Calls prog 301 #[U g,Z a n c] W (iE B g j cc D ((jk r.x 4 ws).map fun y=>⟨y,((4:Nat):Int),[]⟩) W):=by
 obtain⟨f,v,s,k,m,A,q⟩:=h;have X:=q.gB;have K:=O A;have L:=O q;have M:=O C;have u:=O hat;have N:=O E;have Q:=O hw;clear A q C hat E hw;go_enter func301,ntmps301;go_wp2_with fail;refine(nF ws a n c _ W Q).mono ?_;rintro e w1 ⟨i,rfl⟩
 obtain ⟨x,rfl,rfl⟩|⟨F,rfl⟩:=lF i
 .have S:=N x (by simp)
  clear i;go_wp2_with fail;refine(mL x 0 W S (by omega) M).mono ?_;rintro e T ⟨i,d⟩
  cases hv:VZ x 0 with
  |none=>
   unfold kX at i;rw[hv]at i;subst i;have hb:iE B g j cc D ((jk r.x 4 [x]).map fun y=>(⟨y,((4:Nat):Int),[]⟩:jL)) W iX T:=iE.bad (la (by show(VZ x 0).map _=none;rw[hv];rfl)) d (by omega);have b:=hb;clear hb hv d;unfold iX at b⊢;have l:=O b;clear b;go_wp2_with fail;exact⟨rfl,l⟩
  |some z=>
   unfold kX at i;rw[hv]at i;subst i;have o:=K.go d;have p:=O (L.go d);have H:((jk r.x 4 [x]).map fun y=>(⟨y,((4:Nat):Int),[]⟩:jL))=some ⟨{r.x with p9:=z},((4:Nat):Int),[]⟩:=map_some (by show(VZ x 0).map _=_;rw[hv];rfl);obtain⟨c0,f0⟩:=o.cell 4;have t:=O o;have b:=O d;have P:=O H;clear o d H hv;go_wp2;go_end0;exact qM P b t p rfl ⟨rfl,rfl,rfl,rfl⟩ p.nm u (by omega) R (by omega)
 .have w:=O (show iE B g j cc D ((jk r.x 4 ws).map fun y=>(⟨y,((4:Nat):Int),[]⟩:jL)) W iX W from iE.bad (la (oX (by omega) F)) (TH _ _) (by omega))
  have b:=w.out;unfold iX at b⊢;have l:=O b;clear b w;go_wp2_with fail;exact⟨rfl,l⟩
def FM{B g:Nat}{j:Int}{cc:Nat}{D:Nat->Prop}{r:jL}{W:World}{ws:List (List UInt8)}{a:Option Addr}{n c:Nat}(h:vM B g j cc D r W)(hw:ua W a n c ws W)(L:∀s∈ws,s.length<=100000)(hat:r.at_<5)(H:cc<=100001)(hB:B<=W.heap.size)(K:GW W):
 Calls prog 298 #[U g,Z a n c] W (iE B g j cc D ((jk r.x 1 ws).map fun y=>⟨y,((1:Nat):Int),[]⟩) W):=by
 obtain⟨f,v,s,k,m,F,t⟩:=h;have a0:=t.gB;have u:=O F;have A:=O t;have Q:=O K;have q:=O hat;have R:=O L;have X:=O hw;clear F t K hat L hw;go_enter func298,ntmps298;go_wp2_with fail;refine(nF ws a n c _ W X).mono ?_;rintro e w1 ⟨i,rfl⟩
 obtain ⟨x,rfl,rfl⟩|⟨N,rfl⟩:=lF i
 .have hx:=R x (by simp)
  clear i;by_cases hi:x=lQ
  .subst hi
   have S:=O (show iE B g j cc D ((jk r.x 1 [lQ]).map fun y=>(⟨y,((1:Nat):Int),[]⟩:jL)) W (.returned (.tuple #[])) W from FL (map_some (y:=r.x) (by rw[xt,aq rfl])) (TH _ _) u A q (by omega) H (by omega))
   have M:(bs lQ=={data:=#[105,110,102,105,110,105,116,121]})=true:=by decide
   go_wp2;go_end0;exact S
  .have M:(x==[105,110,102,105,110,105,116,121])=false:=by rw[ak];exact hi
   have E:=O hi;clear hi;go_wp2_with fail;refine(mL x 6 W hx (by omega) Q).mono ?_;rintro e w2 ⟨i,d⟩
   cases hv:VZ x 6 with
   |none=>
    unfold kX at i;rw[hv]at i;subst i;have hb:iE B g j cc D ((jk r.x 1 [x]).map fun y=>(⟨y,((1:Nat):Int),[]⟩:jL)) W iX w2:=iE.bad (la (by rw[xt,aj E.out,hv];rfl)) d (by omega);have b:=hb;clear hb hv d;unfold iX at b⊢;have l:=O b;clear b;go_wp2_with fail;exact⟨rfl,l⟩
   |some z=>
    unfold kX at i;rw[hv]at i;subst i;have o:=u.go d;have p:=O (A.go d);have P:((jk r.x 1 [x]).map fun y=>(⟨y,((1:Nat):Int),[]⟩:jL))=some ⟨{r.x with i9:=z},((1:Nat):Int),[]⟩:=map_some (by rw[xt,aj E.out,hv];rfl);obtain⟨c0,f0⟩:=o.cell 1;have w:=O o;have b:=O d;have T:=O P;clear o d P hv;go_wp2;go_end0;exact qM T b w p rfl ⟨rfl,rfl,rfl,rfl⟩ p.nm q (by omega) H (by omega)
 .have C:=O (show iE B g j cc D ((jk r.x 1 ws).map fun y=>(⟨y,((1:Nat):Int),[]⟩:jL)) W iX W from iE.bad (la (oX (by omega) N)) (TH _ _) (by omega))
  have b:=C.out;unfold iX at b⊢;have l:=O b;clear b C;go_wp2_with fail;exact⟨rfl,l⟩
def N0{B g:Nat}{d:Int}{cc:Nat}{D:Nat->Prop}{r:jL}{W:World}{ws:List (List UInt8)}{a:Option Addr}{n c:Nat}(h:vM B g d cc D r W)(hw:ua W a n c ws W)(hat:r.at_<=8)(t:cc<=100001)(p:B<=W.heap.size):
 Calls prog 306 #[U g,Z a n c] W (iE B g d cc D ((jk r.x 9 ws).map fun y=>⟨y,((9:Nat):Int),[]⟩) W):=by
 have b:=hw.1
 have w:g<B:=by obtain⟨f,v,s,k,m,A,q⟩:=h;exact q.gB
 have H:=O h;have z:=O hw;clear h hw;go_enter func306,ntmps306
 match ws,b with
 |[],b=>
  obtain rfl:n=0:=b.symm;have o:=O (show iE B g d cc D ((jk r.x 9 []).map fun y=>(⟨y,((9:Nat):Int),[]⟩:jL)) W (.returned (.tuple #[])) W from Xy (map_some (k:=9) rfl) (TH _ _) H hat t p);clear b;go_wp2_with fail;refine(kW W).mono ?_;rintro e u ⟨rfl,rfl⟩;go_wp2;go_end0;exact o
 |v::r',b=>
  have h0:((n:Int)==0)=false:=by rw[ak];simp at b;omega
  have j:=O (show iE B g d cc D ((jk r.x 9 (v::r')).map fun y=>(⟨y,((9:Nat):Int),[]⟩:jL)) W iX W from iE.bad (la (k:=9) rfl) (TH _ _) (by omega));clear b;go_wp2_with fail;refine(lm W).mono ?_;rintro e u ⟨rfl,rfl⟩;have i:=j.out;unfold iX at i⊢;have l:=O i;clear i j;go_wp2_with fail;exact⟨rfl,l⟩
def nR{o:Oper}{a:Act}{K:Act->World->Prop}{Q:Exit->Act->World->Prop}{T e:TypeId}{z:Value}{k b:Nat}(f:prog.underlying e=some (.slice T))(q:(prog.info? T).map (fun i=>(i.zero,i.size,i.bytes))=some (some z,k,b))(y:z.cells.size=k)(r:0<k)(g:b<=10000)(s x:Operand)
 (w:o.op=.call {callee:=.builtin .append,args:=#[s,x],argTypes:=#[e,e]})(base:Nat)(W:World)(v:Value)(n B0:Nat)(xs cs:List Value)
 (hs:a.eval s=v)(hrow:W.ownsRow base T k v n xs)(hnew:W.heap[B0]? =some (.cells cs.toArray T (0,0)))(hx:a.eval x=.slice (J B0) 1 1)(hcl:cs.length=k)(h1:∀u∈cs,u.oneCell'=true)(hlen:n<=1000000)(hbase:base<=W.heap.size)
 (h:∀g2 cap w',w'.ownsRow base T k (.slice (J g2) (n+1) cap) (n+1) (xs++cs)->nI W w' v g2->base<=g2->K (a.put o.dst (.slice (J g2) (n+1) cap)) w'):
 o.wp prog a W K Q:=by
 obtain⟨i,j,l,m,p⟩:=sd q
 refine wp_append_lies _ s x e w base T i z k b f j l m p y r v n xs hs hrow (J B0) 1 1 cs hx (by omega) (World.news_of_block (cs:=cs.toArray) (t:=T) (fr:=(0,0)) hnew) h1
  (by omega) (by unfold maxLen;omega) (af (cB (show n+1<=1000001 by omega) g) (by omega)) hbase _ rfl ?_
 intro g2 cap w' c d hat hlt;exact h g2 cap w' c (LJ (TH _ _) d hat (ag _) hlt) (c.lt g2 rfl).1
def DL{ops:Array Oper}{c:List Oper}{o:Oper}{a:Act}{Q:Exit->Act->World->Prop}{T d:TypeId}{z:Value}{k b:Nat}(e:prog.underlying d=some (.slice T))(m:(prog.info? T).map (fun i=>(i.zero,i.size,i.bytes))=some (some z,k,b))(r:z.cells.size=k)(p:0<k)(f:b<=10000)
 (g:o.guard=none)(s x:Operand)
 (q:o.op=.call {callee:=.builtin .append,args:=#[s,x],argTypes:=#[d,d]})(base:Nat)(W:World)(v:Value)(n B0:Nat)(xs cs:List Value)
 (hs:a.eval s=v)(hrow:W.ownsRow base T k v n xs)(hnew:W.heap[B0]? =some (.cells cs.toArray T (0,0)))(hx:a.eval x=.slice (J B0) 1 1)(hcl:cs.length=k)(h1:∀u∈cs,u.oneCell'=true)(hlen:n<=1000000)(hbase:base<=W.heap.size)
 (h:∀g2 cap w',w'.ownsRow base T k (.slice (J g2) (n+1) cap) (n+1) (xs++cs)->nI W w' v g2->base<=g2->wpList prog ops Q c (a.put o.dst (.slice (J g2) (n+1) cap)) w'):
 wpList prog ops Q (o::c) a W:=
 eT g fun _ l=>nR e m r p f s x q base W v n B0 xs cs hs hrow hnew hx hcl h1 hlen hbase (fun g2 cap w' h2 h3 j=>l _ _ (h g2 cap w' h2 h3 j))
def sV{w w':World}{a:Option Addr}{n c:Nat}{ws:List (List UInt8)}(h:ua w a n c ws w)(hb:Below w w w'):ua w' a n c ws w':=h.kept (fun k b=>hb.block k b) hb.size
def ym(x:gR)(ws:List (List UInt8)):jk x 5 ws=(kF ws [6,6]).map fun a=>{x with fs:=x.fs++a}:=by
 match ws with
 |[]=>rfl
 |[_]=>rfl
 |_::_::_=>rfl
def Av(x:gR)(ws:List (List UInt8)):jk x 6 ws=(kF ws [3,0]).map fun a=>{x with ws:=x.ws++a}:=by
 match ws with
 |[]=>rfl
 |[_]=>rfl
 |_::_::_=>rfl
def N1{w:World}(d e:Nat):SL (w.alloc (.cells #[.int .i64 (d:Int),.int .i64 (e:Int)] 3)).heap.size (w.alloc (.cells #[.int .i64 (d:Int),.int .i64 (e:Int)] 3)) (J (w.heap.size)) 2 2 ([d,e].map fun(x:Nat)=>(x:Int)):=by
 refine⟨rfl,ag _,fun _=>⟨w.heap.size,0,rfl,by simp,fun j a=>?_⟩⟩;have b:=TL w (.cells #[.int .i64 (d:Int),.int .i64 (e:Int)] 3)
 match j,a with
 |0,_=>exact VV b 0
 |1,_=>exact VV b 1
 |j+2,a=>omega
def Tryz.infoFieldQ:(prog.info? 77).map (fun i=>(i.zero,i.size,i.bytes))=some (some (.agg #[oZ,oZ]),2,16):=by kernel_rfl
def IF{B g:Nat}{N:Int}{cc:Nat}{D:Nat->Prop}{r:jL}{W:World}{ws:List (List UInt8)}{a:Option Addr}{n c:Nat}(h:vM B g N cc D r W)(hw:ua W a n c ws W)(hl:∀s∈ws,s.length<=100000)(hn:ws.length<=100000)(hat:r.at_<=5)(hc:cc<=100001)(hB:B<=W.heap.size)(hg:GW W):
 Calls prog 302 #[U g,Z a n c] W (iE B g N cc D ((jk r.x 5 ws).map fun y=>⟨y,((5:Nat):Int),[]⟩) W):=by
 obtain⟨f,v,s,k,m,a3,w⟩:=h;have b2:=w.gB;have z:=(TH W W).alloc (ag _) (.cells #[.int .i64 ((6:Nat):Int),.int .i64 ((6:Nat):Int)] 3);have q:=O (w.fs.own hat);have H:=O a3;have L:=O w;have Hw:=O (sV hw z);have Hl:=O hl;have Hg:=O (hg.below z);have a1:=O hat;have Hn:=O hn;have l:=O z;have a8:=O hw.1;clear a3 w hw hl hg hat hn z;go_enter func302,ntmps302;go_wp2_with fail;refine(sS ws [6,6] a _ n 2 c 2 _ Hw (N1 6 6) (by have:=a8.out;have:=Hn.out;omega) (by omega) Hl (by decide) Hg).mono ?_;rintro e o F
 cases hv:kF ws [6,6]with
 |none=>
  unfold mu at F;rw[hv]at F;obtain⟨rfl,i⟩:=F;have hb:iE B g N cc D ((jk r.x 5 ws).map fun y=>(⟨y,((5:Nat):Int),[]⟩:jL)) W iX o:=iE.bad (la (by rw[ym,hv];rfl)) (I l i) (cE (eb b2 hB));have M:=hb;clear hb hv i l Hw H L q;unfold iX at M⊢;have a6:=O M;clear M;go_wp2_with fail;exact⟨rfl,a6⟩
 |some zs=>
  have hz:=(qj _ _ _ hv);unfold mu at F;rw[hv]at F;obtain⟨⟨a2,c2,rfl,hs,b0⟩,i⟩:=F
  obtain⟨z0,t,rfl⟩:∃z0 t,zs=[z0,t]:=by
   have:zs.length=2:=by rw[hz.1,hz.2];rfl
   match zs,this with
   |[x,y],_=>exact⟨x,y,rfl⟩
  obtain⟨b,off,rfl,a5,R⟩:=hs.at (by show 0<2;omega)
  have b9:W.heap.size<b:=by have:=b0 b rfl;simp at this;omega
  have n0:o.cell? ⟨b,off,none⟩=some (.int .i64 z0):=R 0 (by show 0<2;omega);have n1:o.cell? ⟨b,off+1,none⟩=some (.int .i64 t):=R 1 (by show 1<2;omega);have c0:2<=c2:=hs.2.1;have X:=H.go (I l i);have hL:=L.go (I l i);have hr:((jk r.x 5 ws).map fun y=>(⟨y,((5:Nat):Int),[]⟩:jL))=some ⟨{r.x with fs:=r.x.fs++[z0,t]},5,[]⟩:=map_some (k:=5) (by rw[ym,hv];rfl);obtain⟨cg,fg⟩:=X.cell 5;have b3:=TK X;have b5:=hL.fs.1;have Hr:=O hr;have Hb:=O (I l i);have HA:=O X;have HL:=O hL
  have b8:B<=o.heap.size:=by have:=(I l i).size;omega
  clear hr X hL i hv hz R hs l Hw H L;obtain⟨fa,fn,fc⟩:=f
  change o.cell? ⟨g,5,none⟩=some (.slice fa fn fc)at cg
  change fn<=cc at b5
  go_upto_region 1 with fail;refine kC (S:=fun x=>x=g\/x=b) 15 [(0,true),(1,true),(2,true),(3,true),(4,true),(5,true),(6,true),(7,true),(8,true),(9,true),(10,true),(11,true),(12,true),(13,false),(14,false)] (by kernel_rfl) (by kernel_rfl) ?_
  iterate 13
   refine gU (v:=?_) ?_ ?_;rotate_left
   .intro y hy
    have k1:=(hy.cell (p:=⟨g,5,none⟩) (VR rfl)).trans cg;have k2:=(hy.cell (p:=⟨b,off,none⟩) (VS rfl)).trans n0;have k3:=(hy.cell (p:=⟨b,off+1,none⟩) (VS rfl)).trans n1;go_simp;with_reducible rfl
   try simp only[V]
  refine gP (fun K P=>?_);go_simp;refine P _ _ (fun x hx=>iC (by obtain rfl|rfl:=hx;exact b3;exact a5)) ?_;clear P K;(try simp only[V]);have d:Below o o (o.drew.alloc (.cells [Value.int .i64 z0,.int .i64 t].toArray 77)):=gY ((TH _ _).drew);have u:=HA.go d;have Q:=HL.go d;have j:=Q.fs.own a1;have a0:=eb a5 d.size
  have a9:B<=(o.drew.alloc (.cells [Value.int .i64 z0,.int .i64 t].toArray 77)).heap.size:=by have:=d.size;omega
  have C:=TK u;refine gP (fun K P=>?_);refine nR underlying32 Tryz.infoFieldQ rfl (by omega) (by omega) _ _ rfl B _ (.slice fa fn fc) fn o _ [.int .i64 z0,.int .i64 t] rfl j.row (TL o.drew _) rfl rfl (by simp[Value.oneCell']) (by omega) a9 ?_;intro g2 cap w3 E A b1;have b4:b≠g/\(Value.slice fa fn fc).ownBlock≠some b:=⟨by omega,fun e=>by have:=(gT q.row e).2;omega⟩;refine P _ _ (fun x hx=>A.kept x (by obtain rfl|rfl:=hx;exact C;exact a0) (by obtain rfl|rfl:=hx;exact(fun e=>by have:=(gT j.row e).1;omega);exact b4.2)) ?_;clear P K;have a4:=(A.kept g C (fun e=>by have:=(gT j.row e).1;omega)).trans u;obtain⟨b6,b7⟩:=jm.cell a4 5;have HA:=O u;have HL:=O Q;have Hb:=O (I Hb d);have T:=O E;have a7:=O A;clear u Q j d E A a4 cg fg n0 n1;(try simp only[V]);refine iu rfl ?_;go_wp2;go_end0;exact FK Hr Hb HA HL T a7 b1 a1 hc hB
def Tryz.infoWaveQ:(prog.info? 79).map (fun i=>(i.zero,i.size,i.bytes))=some (some (.agg #[oZ,oZ]),2,16):=by kernel_rfl
def LQ{B g:Nat}{N:Int}{cc:Nat}{D:Nat->Prop}{r:jL}{W:World}{ws:List (List UInt8)}{a:Option Addr}{n c:Nat}(h:vM B g N cc D r W)(hw:ua W a n c ws W)(hl:∀s∈ws,s.length<=100000)(hn:ws.length<=100000)(hat:r.at_<=6)(hc:cc<=100001)(hB:B<=W.heap.size)(hg:GW W):
 Calls prog 303 #[U g,Z a n c] W (iE B g N cc D ((jk r.x 6 ws).map fun y=>⟨y,((6:Nat):Int),[]⟩) W):=by
 obtain⟨f,v,s,k,m,a3,w⟩:=h;have b2:=w.gB;have z:=(TH W W).alloc (ag _) (.cells #[.int .i64 ((3:Nat):Int),.int .i64 ((0:Nat):Int)] 3);have q:=O (w.ws.own hat);have H:=O a3;have L:=O w;have Hw:=O (sV hw z);have Hl:=O hl;have Hg:=O (hg.below z);have a1:=O hat;have Hn:=O hn;have l:=O z;have a8:=O hw.1;clear a3 w hw hl hg hat hn z;go_enter func303,ntmps303;go_wp2_with fail;refine(sS ws [3,0] a _ n 2 c 2 _ Hw (N1 3 0) (by have:=a8.out;have:=Hn.out;omega) (by omega) Hl (by decide) Hg).mono ?_;rintro e o F
 cases hv:kF ws [3,0]with
 |none=>
  unfold mu at F;rw[hv]at F;obtain⟨rfl,i⟩:=F;have hb:iE B g N cc D ((jk r.x 6 ws).map fun y=>(⟨y,((6:Nat):Int),[]⟩:jL)) W iX o:=iE.bad (la (by rw[Av,hv];rfl)) (I l i) (cE (eb b2 hB));have M:=hb;clear hb hv i l Hw H L q;unfold iX at M⊢;have a6:=O M;clear M;go_wp2_with fail;exact⟨rfl,a6⟩
 |some zs=>
  have hz:=(qj _ _ _ hv);unfold mu at F;rw[hv]at F;obtain⟨⟨a2,c2,rfl,hs,b0⟩,i⟩:=F
  obtain⟨z0,t,rfl⟩:∃z0 t,zs=[z0,t]:=by
   have:zs.length=2:=by rw[hz.1,hz.2];rfl
   match zs,this with
   |[x,y],_=>exact⟨x,y,rfl⟩
  obtain⟨b,off,rfl,a5,R⟩:=hs.at (by show 0<2;omega)
  have b9:W.heap.size<b:=by have:=b0 b rfl;simp at this;omega
  have n0:o.cell? ⟨b,off,none⟩=some (.int .i64 z0):=R 0 (by show 0<2;omega);have n1:o.cell? ⟨b,off+1,none⟩=some (.int .i64 t):=R 1 (by show 1<2;omega);have c0:2<=c2:=hs.2.1;have X:=H.go (I l i);have hL:=L.go (I l i);have hr:((jk r.x 6 ws).map fun y=>(⟨y,((6:Nat):Int),[]⟩:jL))=some ⟨{r.x with ws:=r.x.ws++[z0,t]},6,[]⟩:=map_some (k:=6) (by rw[Av,hv];rfl);obtain⟨cg,fg⟩:=X.cell 6;have b3:=TK X;have b5:=hL.ws.1;have Hr:=O hr;have Hb:=O (I l i);have HA:=O X;have HL:=O hL
  have b8:B<=o.heap.size:=by have:=(I l i).size;omega
  clear hr X hL i hv hz R hs l Hw H L;obtain⟨fa,fn,fc⟩:=v
  change o.cell? ⟨g,6,none⟩=some (.slice fa fn fc)at cg
  change fn<=cc at b5
  go_upto_region 1 with fail;refine kC (S:=fun x=>x=g\/x=b) 15 [(0,true),(1,true),(2,true),(3,true),(4,true),(5,true),(6,true),(7,true),(8,true),(9,true),(10,true),(11,true),(12,true),(13,false),(14,false)] (by kernel_rfl) (by kernel_rfl) ?_
  iterate 13
   refine gU (v:=?_) ?_ ?_;rotate_left
   .intro y hy
    have k1:=(hy.cell (p:=⟨g,6,none⟩) (VR rfl)).trans cg;have k2:=(hy.cell (p:=⟨b,off,none⟩) (VS rfl)).trans n0;have k3:=(hy.cell (p:=⟨b,off+1,none⟩) (VS rfl)).trans n1;go_simp;with_reducible rfl
   try simp only[V]
  refine gP (fun K P=>?_);go_simp;refine P _ _ (fun x hx=>iC (by obtain rfl|rfl:=hx;exact b3;exact a5)) ?_;clear P K;(try simp only[V]);have d:Below o o (o.drew.alloc (.cells [Value.int .i64 z0,.int .i64 t].toArray 79)):=gY ((TH _ _).drew);have u:=HA.go d;have Q:=HL.go d;have j:=Q.ws.own a1;have a0:=eb a5 d.size
  have a9:B<=(o.drew.alloc (.cells [Value.int .i64 z0,.int .i64 t].toArray 79)).heap.size:=by have:=d.size;omega
  have C:=TK u;refine gP (fun K P=>?_);refine nR underlying33 Tryz.infoWaveQ rfl (by omega) (by omega) _ _ rfl B _ (.slice fa fn fc) fn o _ [.int .i64 z0,.int .i64 t] rfl j.row (TL o.drew _) rfl rfl (by simp[Value.oneCell']) (by omega) a9 ?_;intro g2 cap w3 E A b1;have b4:b≠g/\(Value.slice fa fn fc).ownBlock≠some b:=⟨by omega,fun e=>by have:=(gT q.row e).2;omega⟩;refine P _ _ (fun x hx=>A.kept x (by obtain rfl|rfl:=hx;exact C;exact a0) (by obtain rfl|rfl:=hx;exact(fun e=>by have:=(gT j.row e).1;omega);exact b4.2)) ?_;clear P K;have a4:=(A.kept g C (fun e=>by have:=(gT j.row e).1;omega)).trans u;obtain⟨b6,b7⟩:=jm.cell a4 6;have HA:=O u;have HL:=O Q;have Hb:=O (I Hb d);have T:=O E;have a7:=O A;clear u Q j d E A a4 cg fg n0 n1;(try simp only[V]);refine iu rfl ?_;go_wp2;go_end0;exact IC Hr Hb HA HL T a7 b1 a1 hc hB
