import Derived.Test.YtgohdcccfkjooaaGreatDoorRows
import Derived.Test.YtgohdcccfkjooaaGreatDoorProg
import Derived.Stop.LaidErr
import Derived.Lay
import Derived.MakeChecks
import Derived.RangeFuncRecord
import Derived.StillTail
import Derived.WalkSpells
import Derived.WalkLawsBesides
import Derived.Laws.CopyOwn
import Derived.Laws.AppendOwnNone
import Derived.Shelf.Strings.OnBuilder
import Derived.Shelf.Strings.Trim
import Derived.Shelf.Strings.BuilderK
import Derived.Shelf.Utf8.RuneCount
import Derived.Shelf.Strings.Builder2Cap
import Derived.Shelf.Strconv.Itoa3
import Derived.Shelf.Strconv.ErrVarAll
import Derived.Shelf.Strconv.ParseUintEmpty
import Derived.Shelf.Strconv.ParseUint10b64
import Derived.Shelf.Strconv.ParseUint10b32
import Derived.Shelf.Strconv.ParseUint10b16
import Derived.Shelf.Strconv.ParseUint10b8
import Derived.Shelf.Strings.Shaped
import Derived.Shelf.Strings.SplitShaped
import Derived.Shelf.Strings.Runes
import Derived.Shelf.Strings.AsciiSet
import Derived.Shelf.Strings.Explode
import Derived.Shelf.Strings.Repeat
import Derived.Shelf.Strings.FieldsFuncGrows
import Derived.Shelf.Slices.Turned
import Derived.Deep.RegionHeld3
import Derived.Deep.AppendLies
import Derived.ProofKit
import Derived.OpenShut
namespace Go.Proofs.YtgohdcccfkjooaaGreatDoor
set_option linter.all false
set_option maxRecDepth 100000
set_option maxHeartbeats 3200000
open Go.Lib Go.ChangeShapes Go.WideShapes Go.RowKit Go.Proofs.Tryz Go.Shelf Go.ChangeAt
def V:(∀(a:Act)(d:Tmp)(v:Value),a.put (some d) v=⟨a.tmps.setIfInBounds d v,a.defers⟩)/\(∀(a:Act)(v:Value),a.put none v=a)/\(∀(α:Type)(l:List α)(i:Nat)(x:α),l.toArray.setIfInBounds i x=(l.set i x).toArray)/\(∀(α:Type)(x b:α)(l:List α),(x::l).set 0 b=b::l)/\(∀(α:Type)(x b:α)(l:List α)(n:Nat),(x::l).set (n+1) b=x::l.set n b):=⟨fun _ _ _=>rfl,fun _ _=>rfl,fun _ _ _ _=>List.setIfInBounds_toArray ..,fun _ _ _ _=>List.set_cons_zero ..,fun _ _ _ _ _=>List.set_cons_succ ..⟩
instance:Coe Bool Value:=⟨fun b=>.bool b⟩
instance:Coe ByteArray Value:=⟨fun b=>.string b⟩
structure Ue where
 (a:Option Addr) (n c:Nat)
def Z(a:Option Addr)(n c:Nat):Ue:=⟨a,n,c⟩
instance {a:Option Addr} {n c:Nat}:CoeDep Ue (Z a n c) Value:=⟨.slice a n c⟩
instance:Coe Int Value:=⟨fun n=>.int .i64 n⟩
instance:Coe Nat Value:=⟨fun n=>.int .i64 (n:Int)⟩
structure Tt where
def oZ:Tt:=⟨⟩
instance:Coe Tt Value:=⟨fun _=>.int .i64 0⟩
structure Tu where
def oN:Tu:=⟨⟩
instance:Coe Tu Value:=⟨fun _=>.slice none 0 0⟩
structure Ud where
 (n:Nat)
def J(n:Nat):Ud:=⟨n⟩
instance {n:Nat}:CoeDep Ud (J n) Addr:=⟨⟨n,0,none⟩⟩
instance {n:Nat}:CoeDep Ud (J n) (Option Addr):=⟨some ⟨n,0,none⟩⟩
structure Uf where
 (n:Nat)
def U(n:Nat):Uf:=⟨n⟩
instance {n:Nat}:CoeDep Uf (U n) Value:=⟨.pointer (some ⟨n,0,none⟩)⟩
instance:Coe World Nat:=⟨fun w=>w.heap.size⟩
def O{p}(h:p):Go.RowKit.Hid p:=h
def aa:=@Nat.le_refl
def ab:=@Nat.lt_of_lt_of_le
def ae:=@List.getElem?_eq_getElem
def af:=@Nat.le_trans
def TG:=@List.getElem?_eq_some_iff
def ah:=@List.getD_eq_getElem?_getD
def ai:=@congrArg
def aj:=@if_neg
def ak:=@beq_eq_false_iff_ne
def al:=@List.length_append
def am:=@Bool.and_eq_true
def an:=@List.all_eq_true
def aq:=@if_pos
def ar:=@Go.bodyPost_ret
def au:=@List.mem_cons_of_mem
def aw:=@decide_eq_false
def aA:=@Nat.zero_le
def aB:=@Int.natAbs_natCast
def aC:=@List.append_assoc
def aD:=@decide_eq_true_eq
def aE:=@Option.some.inj
def aF:=@List.getElem?_append_left
def aG:=@List.mem_cons_self
def aH:=@List.length_cons
def aI:=@Int.toNat_natCast
def aJ:=@List.mem_range
def aK:=@List.mem_singleton
def aL:=@List.mem_of_getElem?
def aM:=@List.take_of_length_le
def aN:=@List.map_cons
def aO:=@Option.bind_some
def aP:=@decide_eq_true
def aR:=@List.getElem?_map
def aS:=@List.mem_cons
def aT:=@List.map_append
def aU:=@List.length_map
def aV:=@Nat.zero_add
def aW:=@List.set_cons_succ
def aX:=@List.length_eq_zero_iff
def aY:=@List.getElem?_append_right
def aZ:=@List.set_cons_zero
def bc:=@Array.getElem?_toList
def bf:=@List.take_length
def bg:=@Decidable.byContradiction
def bi:=@List.not_mem_nil
def bj:=@List.mem_append
def bn:=@List.length_take
def bo:=@List.getElem?_toArray
def bq:=@Nat.pos_of_ne_zero
def bu:=@Int.tmod_eq_emod_of_nonneg
def bx:=@Nat.le_of_ble_eq_true
def bz:=@List.getElem?_eq_none
def bA:=@Option.some.injEq
def bB:=@Int.mul_le_mul_of_nonneg_right
def bC:=@Bool.false_eq_true
def bD:=@List.nil_append
def bE:=@Nat.add_zero
def bF:=@List.cons_append
def bG:=@List.append_nil
def bH:=@List.mem_or_eq_of_mem_set
def bI:=@List.map_nil
def bJ:=@Bool.eq_iff_iff
def bK:=@List.setIfInBounds_toArray
def bL:=@Int.tdiv_eq_ediv_of_nonneg
def bM:=@Nat.pow_succ
def bN:=@Int.mul_comm
def bO:=@Int.mul_assoc
def bQ:=@Go.run_underlying
def bR:=@Go.Sem.run_bind
def bT:=@List.getElem?_concat_length
def bU:=@Go.Result.andThen_ok
def bV:=@List.range_succ
def bW:=@Int.natCast_mul
def bX:=@if_true
def bY:=@Nat.le_succ
def bZ:=@of_decide_eq_true
def cd:=@Nat.mul_comm
def ce:=@List.flatten_cons
def Ui:=@Nat.mul_le_mul_right
def cp:=@List.getElem?_drop
def ct:=@List.forall_mem_cons
def cu:=@Array.getElem?_eq_some_iff
def cw:=@List.any_eq_true
def cx:=@Nat.mod_lt
def cy:=@Nat.pow_pos
def cA:=@List.take_append_drop
def cB:=@Nat.mul_le_mul
def cC:=@Array.setIfInBounds_comm
def cD:=@Nat.min_eq_left
def cE:=@Nat.le_of_lt
def cF:=@List.getElem?_set
def cG:=@List.flatten_append
def cH:=@Int.toNat_of_nonneg
def cI:=@List.length_nil
def cJ:=@Int.add_mul
def cK:=@Nat.div_lt_iff_lt_mul
def cL:=@Bool.and_eq_false_iff
def cM:=@Nat.eq_zero_or_pos
def cN:=@Nat.add_assoc
def cO:=@List.sum_cons
def cP:=@List.mem_map
def cR:=@or_false
def cS:=@List.getElem?_cons_succ
def cT:=@Go.Sem.run_pure
def cU:=@Nat.mul_lt_mul''
def cV:=@Nat.mod_eq_of_lt
def cW:=@List.getElem_mem
def cX:=@Nat.lt_of_le_of_lt
def cY:=@Nat.add_sub_cancel
def cZ:=@List.getElem?_take
def da:=@Int.emod_lt_of_pos
def dc:=@Nat.div_add_mod
def dd:=@Go.Exit.noGoto_ret
def de:=@if_false
def df:=@Nat.succ_mul
def dh:=@List.sum_nil
def di:=@Bool.not_eq_true'
def dj:=@decide_eq_decide
def dk:=@Nat.lt_succ_self
def dm:=@Nat.pow_add
def dn:=@Nat.mul_one
def dp:=@Nat.div_le_self
def dq:=@Int.emod_nonneg
def dr:=@List.length_replicate
def dt:=@List.length_range
def du:=@List.any_eq_false
def dw:=@Bool.eq_false_iff
def dz:=@beq_iff_eq
def dA:=@Nat.pow_le_pow_right
def dB:=@Nat.add_mul
def dC:=@Nat.lt_or_ge
def dD:=@List.map_map
def dE:=@List.filter_cons
def dF:=@Int.pow_succ
def dG:=@List.drop_eq_getElem_cons
def dH:=@Array.getElem?_eq_getElem
def dI:=@List.take_succ_cons
def dJ:=@List.getElem_of_mem
def dK:=@Prod.mk.injEq
def dL:=@List.length_set
def dM:=@Int.natCast_pow
def dN:=@Bool.or_eq_true
def dO:=@List.filter_append
def dP:=@Int.natCast_nonneg
def dQ:=@decide_eq_false_iff_not
def dR:=@Nat.add_sub_cancel_left
def dT:=@Nat.pow_zero
def dU:=@List.take_zero
def dV:=@List.take_succ_eq_append_getElem
def dW:=@List.drop_zero
def dX:=@List.takeWhile_append_dropWhile
def dY:=@Classical.choose_spec
def dZ:=@Nat.mul_pos
def eb:=@Nat.div_lt_of_lt_mul
def ec:=@List.eq_nil_of_length_eq_zero
def ed:=@Int.mul_le_mul_of_nonneg_left
def eh:=@Int.mul_add
def ei:=@List.cons.injEq
def eo:=@List.any_append
def er:=@List.all_append
def et:=@Int.natCast_add
def eu:=@Nat.mul_le_mul_left
def ew:=@List.replicate_succ
def ez:=@List.length_pos_iff
def eA:=@List.getD_cons_succ
def eB:=@Nat.zero_mul
def eC:=@Nat.sub_self
def eD:=@Array.getD_eq_getD_getElem?
def eE:=@List.drop_drop
def eF:=@List.all_takeWhile
def eG:=@Int.natAbs_mul
def eH:=@Int.mul_nonneg
def eI:=@Int.mul_le_mul
def eJ:=@dif_neg
def eK:=@List.take_add_one
def eL:=@Option.isSome_iff_exists
def eM:=@Nat.gcd_pos_of_pos_right
def eN:=@List.any_cons
def eO:=@Nat.div_eq_of_lt
def eP:=@List.mem_flatten
def eQ:=@List.length_drop
def eR:=@List.getElem?_replicate
def eS:=@List.getElem?_cons_zero
def eT:=@Go.wpList_plain
def eU:=@Rat.zero_mul
def eV:=@Nat.mul_zero
def eW:=@Nat.eq_zero_of_not_pos
def eX:=@Nat.div_div_eq_div_mul
def eY:=@List.append_eq_nil_iff
def eZ:=@Option.any_some
def fb:=@List.replicate_zero
def fd:=@List.getD_cons_zero
def fe:=@Array.length_toList
def ff:=@Nat.mul_assoc
def fh:=@List.all_cons
def fi:=@Int.add_assoc
def fj:=@ByteArray.ext
def fk:=@bne_iff_ne
def fm:=@List.findIdx?_eq_some_iff_getElem
def fo:=@dif_pos
def ft:=@Rat.intCast_ofNat
def fu:=@Ne.symm
def fx:=@Nat.zero_mod
def fy:=@Nat.zero_div
def fA:=@Nat.add_comm
def fB:=@Int.add_zero
def fC:=@Go.Addr.add_lit
def fD:=@Array.getElem?_setIfInBounds_ne
def fE:=@forall_eq_or_imp
def fF:=@Rat.mul_le_mul_of_nonneg_right
def fG:=@Nat.gcd_dvd_left
def fH:=@List.take_append
def fI:=@List.countP_cons
def fJ:=@List.cons_ne_nil
def fK:=@Int.pow_pos
def fL:=@Int.one_mul
def fM:=@Int.mul_sub
def fN:=@UInt8.toNat_inj
def fO:=@List.set_append
def fP:=@List.find?_cons
def fQ:=@And.imp
def fR:=@Rat.num_nonneg
def fS:=@Rat.not_lt
def fT:=@Bool.not_false
def fU:=@Array.ext'
def fV:=@List.getLast?_eq_none_iff
def fW:=@Array.getElem_modify_self
def fX:=@Rat.mkRat_def
def fY:=@List.map_id''
def fZ:=@List.head?_dropWhile_not
def gd:=@List.getElem?_take_of_lt
def ge:=@Int.ofNat_inj
def gf:=@Bool.not_true
def gg:=@Nat.exists_eq_add_of_le
def gh:=@List.getLast?_cons_cons
def gi:=@Rat.intCast_le_intCast
def gj:=@Option.map_eq_some_iff
def gk:=@Nat.sub_zero
def gm:=@List.head?_eq_getElem?
def gp:=@List.drop_eq_nil_of_le
def gq:=@List.dropWhile_sublist
def gr:=@Int.ofNat_lt
def gu:=@ByteArray.data_extract
def gv:=@List.length_singleton
def gx:=@List.dropWhile_append
def TH:=@Go.RowKit.Below.refl
def TI:=@Go.RowKit.Below.heap_setCell
def TJ:=@Go.RowKit.Below.heap_alloc
def TK:=@Go.lt_of_block
def TL:=@Go.heap_alloc_new
def TM:=@Go.IntWalk.i64_in
def VR:=@Or.inl
def VS:=@Or.inr
def jf:Nat->Nat->List UInt8
 |0,_=>[]
 |d+1,r=>if r=0 then[]else UInt8.ofNat (48+r/10^d)::jf d (r%10^d)
def oR(u d:Nat):List UInt8:=decDigits (u/10^d)++(if u%10^d=0 then[]else 46::jf d (u%10^d))
def iz(n:Int)(d:Nat):List UInt8:=(if n<0 then[45]else[])++oR n.natAbs d
def uN:Nat->Nat->List UInt8
 |0,_=>[]
 |d+1,r=>UInt8.ofNat (48+r/10^d%10)::uN d (r%10^d)
def wZ(b:UInt8):Bool:=b==48
def mQ(l:List UInt8):List UInt8:=(l.reverse.dropWhile wZ).reverse
def ED(k):mQ (List.replicate k 48)=[]:=by
 unfold mQ;rw[List.reverse_replicate]
 have:(List.replicate k (48:UInt8)).dropWhile wZ=[]:=by
  induction k with
  |zero=>rfl
  |succ k a=>rw[ew];exact a
 rw[this];rfl
def GQ{b l}(h:b≠48):mQ (b::l)=b::mQ l:=by
 have a:wZ b=false:=by unfold wZ;simpa using h
 unfold mQ;rw[List.reverse_cons,gx]
 cases hd:(l.reverse.dropWhile wZ)with
 |nil=>simp[List.dropWhile,a]
 |cons x xs=>simp
def Be{b l}(h:mQ l≠[]):mQ (b::l)=b::mQ l:=by
 unfold mQ at h⊢;rw[List.reverse_cons,gx]
 cases hd:(l.reverse.dropWhile wZ)with
 |nil=>rw[hd]at h;exact absurd rfl h
 |cons x xs=>simp
def xS:∀d r,(uN d r).length=d
 |0,_=>rfl
 |d+1,r=>by rw[uN,aH,xS d]
def BZ:∀d,uN d 0=List.replicate d 48
 |0=>rfl
 |d+1=>by rw[uN,fy,fx,fx,BZ d];rfl
def vv{k}(h1:0<k)(h2:k<10):UInt8.ofNat (48+k)≠48:=by
 intro h;have:=ai UInt8.toNat h;rw[UInt8.toNat_ofNat']at this;have e:(48:UInt8).toNat=48:=rfl;rw[e]at this;omega
def B3:∀(d r:Nat),r<10^d->mQ (uN d r)=jf d r
 |0,_,_=>rfl
 |d+1,r,h=>by
  have a:0<10^d:=cy (by omega)
  have g:r/10^d<10:=by
   rw[cK a];rw[bM]at h;omega
  rw[uN,jf,cV g];by_cases b:r=0
  .rw[aq b,b,fy,fx,BZ]
   exact ED (d+1)
  .rw[aj b]
   have c:=B3 d (r%10^d) (cx _ a);by_cases j:r/10^d=0
   .have e:r%10^d=r:=cV (by
     obtain h'|h':=dC r (10^d)
     .exact h'
     .have:=Nat.div_pos h' a;omega)
    have f:mQ (uN d (r%10^d))≠[]:=by
     rw[c,e]
     cases d with
     |zero=>
      have i:=cx r a;rw[e,dT]at i;omega
     |succ d=>rw[jf,aj b];exact fJ _ _
    rw[Be f,c]
   .rw[GQ (vv (bq j) g),c]
def pP:∀(d u:Nat),10^d<=u->decDigits u=decDigits (u/10^d)++uN d (u%10^d)
 |0,u,_=>by simp[uN]
 |d+1,u,h=>by
  have e:0<10^d:=cy (by omega);have h1:10^d<=u:=af (dA (by omega) (by omega)) h
  have a:¬u/10^d<10:=by
   intro hlt;rw[cK e]at hlt;rw[bM]at h;omega
  rw[pP d u h1,decDigits,eJ a,uN,bM,eX,aC];congr 1
  have b:u% (10^d*10)/10^d%10=u/10^d%10:=by
   rw[Nat.mod_mul_right_div_self,Nat.mod_mod]
  have c:u% (10^d*10)%10^d=u%10^d:=Nat.mod_mod_of_dvd _ (Nat.dvd_mul_right _ _);rw[b,c];rfl
def zB:∀{d u:Nat},10^d<=u->d+1<=nDigits u
 |0,u,_=>nDigits_pos u
 |d+1,u,h=>by
  have a:¬u<10:=by
   have b:0<10^d:=cy (by omega);rw[bM]at h;omega
  rw[nDigits_big a];have:=zB (d:=d) (u:=u/10) (by rw[bM]at h;omega);omega
def mJ:∀{d u:Nat},u<10^d->1<=d->nDigits u<=d
 |0,_,_,h=>absurd h (by omega)
 |d+1,u,h,_=>by
  by_cases a:u<10
  .rw[nDigits_small a];omega
  .rw[nDigits_big a]
   have h2:u/10<10^d:=by rw[bM]at h;omega
   have b:1<=d:=by
    cases d with
    |zero=>rw[dT]at h2;omega
    |succ d=>omega
   have:=mJ h2 b;omega
def EE:∀(d u:Nat),u<10^d->1<=d->uN d u=List.replicate (d-nDigits u) 48++decDigits u
 |0,_,_,h=>absurd h (by omega)
 |d+1,u,h,_=>by
  have f:0<10^d:=cy (by omega)
  have b:u/10^d<10:=by
   rw[cK f];rw[bM]at h;omega
  by_cases c:10^d<=u
  .have e:nDigits u=d+1:=nDigits_unique d u c h
   rw[e,eC,fb,bD,pP d u c,uN,cV b];rw[decDigits,fo b];rfl
  .have a:u<10^d:=by omega
   rw[uN,eO a,cV a]
   cases d with
   |zero=>
    have:u=0:=by rw[dT]at a;omega
    subst this;rw[nDigits_small (by omega),decDigits,fo (by omega)];rfl
   |succ d=>
    rw[EE (d+1) u a (by omega)]
    have g:nDigits u<=d+1:=by
     obtain hlt|hge:=dC (d+1) (nDigits u)
     .have h1:=mJ a (by omega);omega
     .exact hge
    rw[show d+1+1-nDigits u=(d+1-nDigits u)+1 by omega,ew];rfl
def QS(d u):List.replicate (d+1-(decDigits u).length) 48++decDigits u=decDigits (u/10^d)++uN d (u%10^d):=by
 rw[decDigits_length];have e:0<10^d:=cy (by omega);by_cases b:10^d<=u
 .have c:d+1<=nDigits u:=zB b
  rw[show d+1-nDigits u=0 by omega,fb,bD,pP d u b]
 .have a:u<10^d:=by omega
  have h2:u<10^(d+1):=ab a (dA (by omega) (by omega));rw[<- EE (d+1) u h2 (by omega),eO a,cV a,uN,eO a,cV a,decDigits,fo (by omega)];rfl
def rO(s:List UInt8)(d:Nat):List UInt8:=
 let z:=List.replicate (d+1-s.length) 48++s
 let p:=mQ (z.drop (z.length-d))
 z.take (z.length-d)++(if p=[]then[]else 46::p)
def nL:∀{d r:Nat},r<10^d->(jf d r=[]↔r=0)
 |0,r,h=>by rw[dT]at h;exact⟨fun _=>by omega,fun _=>rfl⟩
 |d+1,r,_=>by
  rw[jf];by_cases h:r=0
  .rw[aq h];exact⟨fun _=>h,fun _=>rfl⟩
  .rw[aj h];exact⟨fun e=>(fJ _ _ e).elim,fun e=>(h e).elim⟩
def EF(d u):rO (decDigits u) d=oR u d:=by
 have b:0<10^d:=cy (by omega);have a:=cx u b;unfold rO oR;simp only[];rw[QS,al,xS,cY];rw[List.drop_left' rfl,List.take_left' rfl,B3 d _ a];congr 1;by_cases h:u%10^d=0
 .rw[aq h,aq ((nL a).2 h)]
 .rw[aj h,aj (fun e=>h ((nL a).1 e))]
def nw{k}(h:k<10):decDigits k=[UInt8.ofNat (48+k)]:=by rw[decDigits,fo h]
def Bu{H}{enc:TypeId×Value->H}{a C os f fn s m b n d l}{X:World->Array Value->Prop}(D:∀(w w':World)(args:Array Value),w.heap=w'.heap->X w args->X w' args)(own:ownKnob C.prog.godebug=none)(h:os.Started)(o:C.prog.inits.idxOf? f=none)(y:C.prog.funcs[f]? =some fn)(k:∃(w:World)(tape:Tape)(i:Input),w.os=os/\(w.forCall tape i).Shaped C.prog/\i.vars=[]/\Input.okWide C.prog (w.forCall tape i) .any w f i/\
   ((s.pre enc C.prog fn m b (w.forCall tape i).memory i.args/\X (w.forCall tape i).memory i.args)/\sizedMet enc C.prog fn (OpenSpec.ofChange s) b (w.forCall tape i).memory i.args)/\a.holds C.prog (lone (Frame.enter C.prog f i.args .normal) [] (w.forCall tape i)))(g:∀(W:World)(base:Nat)(args:Array Value)(ds u:List (DataW H))(c:List MemPlace),
   (∀(j:Nat) t v,fn.params[j]? =some t->args[j]? =some v->Value.okWide C.prog W .any base t v)->
   DataW.Whole enc C.prog fn.params.toList s.vars b W args.toList ds u c->X W args->W.ShapedOpen C.prog->
   Calls C.prog f args W fun e W'=>∃v,e=.returned v/\s.post enc C.prog fn b n d l W args v W'):
 ReturnsInHanded a C os f .any (fun w args=>(s.pre enc C.prog fn m b w args/\X w args)/\sizedMet enc C.prog fn (OpenSpec.ofChange s) b w args) (s.post enc C.prog fn b n d l):=by
 refine returnsInHanded_of_calls own h o k ?_;intro w tape i _ A _ z q _;obtain⟨_,_,_,x,p,_,_,_,_,r⟩:=z;have e:x=fn:=aE (p.symm.trans y);subst e;obtain⟨⟨⟨ds,u,c,hw,_⟩,E⟩,_⟩:=q;have B:=DataW.Whole.of_heap (w':=w.forCall tape i) (by rfl) hw
 refine(g (w.forCall tape i) w i.args ds u c r B (D _ _ _ (by rfl) E) A).mono fun e W' ⟨v,he,hp⟩=>?_
 subst he;exact ChangeSpec.post_blind hp
def val:List Int->Int
 |[]=>0
 |d::l=>d+1000000000*val l
def mv(l:List Int):Prop:=∀j,j<l.length->0<=l.getD j 0/\l.getD j 0<1000000000
def mv.nil:mv []:=fun j h=>by simp at h
def mv.head{d:Int}{l}(h:mv (d::l)):0<=d/\d<1000000000:=by simpa using h 0 (by simp)
def mv.tail{d:Int}{l}(h:mv (d::l)):mv l:=fun j a=>by simpa using h (j+1) (by simpa using a)
def mv.cons{d l}(a:0<=d/\d<1000000000)(h:mv l):mv (d::l):=fun j b=>by
 cases j with
 |zero=>simpa using a
 |succ j=>simpa using h j (by simpa using b)
def mv.all{l}(h:mv l)(j):0<=l.getD j 0/\l.getD j 0<1000000000:=by
 by_cases a:j<l.length
 .exact h j a
 .rw[ah,bz (by omega)];simp
def mv.append{l m}(b:mv l)(c:mv m):mv (l++m):=fun j _=>by
 by_cases a:j<l.length
 .rw[ah,aF a,<- ah];exact b j a
 .rw[ah,aY (by omega),<- ah];exact c.all _
def mv.take{l}(h:mv l)(k):mv (l.take k):=fun j b=>by
 have a:j<k:=by have:=List.length_take_le k l;omega
 have e:(l.take k).getD j 0=l.getD j 0:=by simp[ah,a]
 rw[e];exact h.all j
def mv.drop{l}(h:mv l)(k):mv (l.drop k):=fun j _=>by
 have e:(l.drop k).getD j 0=l.getD (k+j) 0:=by simp[ah,cp]
 rw[e];exact h.all _
def jU{l}(h:mv l):0<=val l:=by
 induction l with
 |nil=>simp[val]
 |cons d l a=>have:=h.head;have:=a h.tail;simp only[val];omega
def oD(l m):val (l++m)=val l+1000000000^l.length*val m:=by
 induction l with
 |nil=>simp[val]
 |cons d l a=>simp only[bF,val,a,aH,dF,eh];rw[bN (1000000000^l.length) 1000000000,bO];omega
def rZ{l}(h:mv l):val l<1000000000^l.length:=by
 induction l with
 |nil=>simp[val]
 |cons d l a=>have:=h.head;have:=a h.tail;simp only[val,aH,dF];omega
def uQ(n):val (List.replicate n 0)=0:=by
 induction n with
 |zero=>rfl
 |succ n a=>simp only[ew,val,a];omega
def Jj{l i}(h:i<l.length)(v):val (l.set i v)=val l+(v-l.getD i 0)*1000000000^i:=by
 induction l generalizing i with
 |nil=>simp at h
 |cons d l a=>
  cases i with
  |zero=>simp only[aZ,val,fd,Int.pow_zero];omega
  |succ i=>
   simp only[aW,val,eA,a (by simpa using h),dF];rw[<- bO,eh,bN (_*_) 1000000000];omega
def oY{l:List Int}{k}(h:k<l.length):val (l.take (k+1))=val (l.take k)+l.getD k 0*1000000000^k:=by
 have e:l.take (k+1)=l.take k++[l.getD k 0]:=by
  rw[eK,ae h];simp[ah,ae h]
 rw[e,oD,bn,cD (by omega)];simp only[val,Int.mul_zero,fB];rw[bN]
def Ea{l:List Int}{k}(h:k<l.length):val (l.drop k)=l.getD k 0+1000000000*val (l.drop (k+1)):=by
 rw[dG h];simp[val,ah,ae h]
def ip(n:Nat):List Int:=if n=0 then[]else((n%1000000000:Nat):Int)::ip (n/1000000000)
termination_by n
decreasing_by omega
def jP:ip 0=[]:=by rw[ip];simp
def nU{n}(h:0<n):ip n=((n%1000000000:Nat):Int)::ip (n/1000000000):=by rw[ip,aj (by omega)]
def iU(n):mv (ip n):=by
 induction n using Nat.strongRecOn with
 |_ n ih=>
  by_cases h:n=0
  .subst h;rw[jP];exact mv.nil
  .rw[nU (by omega)];exact mv.cons (by omega) (ih _ (by omega))
def iY(n):val (ip n)=n:=by
 induction n using Nat.strongRecOn with
 |_ n ih=>
  by_cases h:n=0
  .subst h;rw[jP];rfl
  .rw[nU (by omega)];simp only[val,ih _ (show n/1000000000<n by omega)];omega
def Sg(l:List Int):Prop:=0<l.length->l.getD (l.length-1) 0≠0
def My(n):Sg (ip n):=by
 induction n using Nat.strongRecOn with
 |_ n ih=>
  by_cases h:n=0
  .subst h;rw[jP];intro h;simp at h
  .rw[nU (by omega)]
   intro _;by_cases h2:n/1000000000=0
   .rw[h2,jP];simp;omega
   .have:=ih _ (show n/1000000000<n by omega)
    rw[nU (n:=n/1000000000) (by omega)]at this⊢;simpa using this (by simp)
def Sg.tail{d:Int}{l}(h:Sg (d::l)):Sg l:=by
 intro a;have:=h (by simp)
 cases l with
 |nil=>simp at a
 |cons e l=>simpa using this
def Mz{l}(h:mv l)(a:Sg l):ip (val l).toNat=l:=by
 induction l with
 |nil=>simp only[val];exact jP
 |cons d l g=>
  have h1:=h.head;have h2:=jU h.tail;have h3:=g h.tail a.tail
  have e:0<(val (d::l)).toNat:=by
   simp only[val];by_cases h0:d=0
   .have:l≠[]:=by rintro rfl;exact a (by simp) (by simpa using h0)
    by_cases f:val l=0
    .rw[f]at h3;rw[Int.toNat_zero,jP]at h3;exact absurd h3.symm this
    .omega
   .omega
  rw[nU e]
  have b:(((val (d::l)).toNat%1000000000:Nat):Int)=d:=by simp only[val];omega
  have c:(val (d::l)).toNat/1000000000=(val l).toNat:=by simp only[val];omega
  rw[b,c,h3]
def JX{l:List Int}{k j}(h:j<k):(l.take k).getD j 0=l.getD j 0:=by
 simp[ah,h]
def AY{l:List Int}{k}(h:k<l.length)(a:l.getD k 0=0):val (l.take (k+1))=val (l.take k):=by
 rw[oY h,a];omega
def MA{l:List Int}{k}(h:k<=l.length)(c:k=0\/l.getD (k-1) 0≠0):Sg (l.take k):=by
 intro b
 have a:(l.take k).length=k:=by rw[bn,cD h]
 rw[a]at b⊢;rw[JX (by omega)];exact c.resolve_left (by omega)
def CT{l k}{n:Nat}(a:mv l)(h:k<=l.length)(c:k=0\/l.getD (k-1) 0≠0)(b:val (l.take k)=n):l.take k=ip n:=by
 rw[<- Mz (a.take k) (MA h c),b];rfl
def iB{n k}(h:n<1000000000^k):(ip n).length<=k:=by
 induction k generalizing n with
 |zero=>have:n=0:=by simpa using h
        subst this;rw[jP];simp
 |succ k a=>
  by_cases h0:n=0
  .subst h0;rw[jP];simp
  .rw[nU (by omega),aH]
   have:n/1000000000<1000000000^k:=by rw[bM]at h;exact eb (by rw[cd];exact h)
   have:=a this;omega
def sb(n):n<1000000000^(ip n).length:=by
 have h:=rZ (iU n);rw[iY]at h
 have e:((1000000000^(ip n).length:Nat):Int)=(1000000000:Int)^(ip n).length:=by rw[dM];rfl
 rw[<- e]at h;exact gr.1 h
def iM{n m}(h:n<=m):(ip n).length<=(ip m).length:=
 iB (cX h (sb m))
def jC{n}:(ip n).length=0↔n=0:=by
 constructor
 .intro h;have:=sb n;rw[h]at this;omega
 .rintro rfl;rw[jP];rfl
def qS(x y:List Int):Nat->Int
 |0=>0
 |k+1=>if x.getD k 0=y.getD k 0 then qS x y k else x.getD k 0-y.getD k 0
def yW{x y}(c:mv x)(d:mv y):∀k,k<=x.length->k<=y.length->
 ((0<qS x y k↔val (y.take k) <val (x.take k))/\(qS x y k<0↔val (x.take k) <val (y.take k))/\ -1000000000<qS x y k/\qS x y k<1000000000)
 |0,_,_=>by simp[qS]
 |k+1,h1,h2=>by
  have e:=yW c d k (by omega) (by omega);rw[oY (by omega),oY (by omega)];have a1:=c.all k;have a2:=d.all k;have b1:=rZ (c.take k);have b2:=rZ (d.take k);have c1:=jU (c.take k);have c2:=jU (d.take k);rw[bn,cD (by omega)]at b1 b2;simp only[qS];generalize(1000000000:Int)^k=p at*;generalize val (x.take k)=u at*;generalize val (y.take k)=v at*;generalize x.getD k 0=a at*;generalize y.getD k 0=b at*;by_cases h:a=b
  .subst h;rw[aq rfl];refine⟨by rw[e.1];omega,by rw[e.2.1];omega,e.2.2.1,e.2.2.2⟩
  .rw[aj h]
   have f:0<p:=by omega
   obtain hlt|hgt:=Int.lt_or_gt_of_ne h
   .have:(a+1)*p<=b*p:=bB (by omega) (by omega)
    rw[cJ,fL]at this;exact⟨by omega,by omega,by omega,by omega⟩
   .have:(b+1)*p<=a*p:=bB (by omega) (by omega)
    rw[cJ,fL]at this;exact⟨by omega,by omega,by omega,by omega⟩
def JY(x y:List Int):Int:=if x.length=y.length then qS x y x.length else(x.length:Int)-y.length
def JZ{m n}:(0<JY (ip m) (ip n)↔n<m)/\(JY (ip m) (ip n) <0↔m<n):=by
 unfold JY;by_cases h:(ip m).length=(ip n).length
 .rw[aq h]
  have:=yW (iU m) (iU n) (ip m).length (aa _) (by omega);rw[bf,h,bf,iY,iY]at this;rw[h];exact⟨by rw[this.1];omega,by rw[this.2.1];omega⟩
 .rw[aj h]
  constructor
  .constructor
   .intro h2
    apply bg;intro h3
    have:=iM (show m<=n by omega);omega
   .intro h2
    have:=iM (show n<=m by omega);omega
  .constructor
   .intro h2
    apply bg;intro h3
    have:=iM (show n<=m by omega);omega
   .intro h2
    have:=iM (show m<=n by omega);omega
def NP(P:Program)(l:Nat)(R:Ending->World->Prop)(e:Exit)(a:Act)(w:World):Prop:=
 match e with
 | .panic b=>a.defers=[]/\R (.panicked b) w
 |e=>roundPost P l R e a w
def DD{F n P l f fn}{tmps:Array Value}{assign body w}{R:Ending->World->Prop}(S:P.funcs[f]? =some fn)(Q:F.fn f)(h:assign.wpIn (F.inRound l) n P (Exit.then (fun L T=>∃N,(Instr.beginRound l).run P T=.ok () N/\body.wpIn (F.inRound l) n P (NP P l R) L N) (fun _ _ _=>False)) {tmps:=tmps,defers:=[]} w):
 RoundIn F n P l f tmps assign body w R:=by
 refine⟨Q,fun c cs A=>?_⟩;obtain⟨b,D⟩:∃b:Frame,b={(default:Frame)with fn:=f,kind:=.normal,roundOf:=some l}:=⟨_,rfl⟩
 have H:b.fn=f:=by rw[D]
 have x:b.kind=.normal:=by rw[D]
 have g:b.roundOf=some l:=by rw[D]
 have j:(F.inRound l).fn b.fn:=by rw[H];exact Q
 have s:Frame.round l f tmps assign body .normal=b.atR {tmps:=tmps,defers:=[]} [.code assign,.beginRound,.code body]:=by
  rw[D];simp[Frame.round,Frame.atR]
 have m:(F.inRound l).room ((c::cs).length+1+n):=A;rw[s];obtain⟨e,L,T,o,C⟩:=h b [.beginRound,.code body] (c::cs) g j m
 match e,o,C with
 | .normal,⟨N,hgo,hbody⟩,C=>
   have i:=StepsIn.trans C (.one (fenced_calm (fr:=b.atR L [.beginRound,.code body]) j m rfl) (stepR_beginRound g hgo));obtain⟨X,z,W,B,E⟩:=hbody b [] (c::cs) g j m
   match X,B,E with
   | .panic d,⟨hd,p⟩,⟨y,q⟩=>
     have K:({b.atR z y with mode:=.panicking d}:Frame).leaving P W (.panicked d):=⟨rfl,hd,fn,by show P.funcs[b.fn]? =some fn;rw[H];exact S⟩;exact⟨.panicked d,W,p,i.trans (q.trans (.one (fenced_leaving (fr:={b.atR z y with mode:=.panicking d}) j m K) (step_leave_panicked K)))⟩
   | .normal,⟨v,u,a,p⟩,q=>exact⟨.returned v,u,p,i.trans (StepsIn.trans q (.one (fenced_calm (fr:=b.atR z []) j m rfl) (stepR_round_end g x a)))⟩
   | .ret,⟨v,u,a,p⟩,q=>
     obtain⟨k,r⟩:=q.2 (by rw[g];rfl);exact⟨.returned v,u,p,i.trans (r.trans (.one (fenced_calm (fr:=b.atR z (.code .ret::k)) j m rfl) (stepR_round_ret g x a)))⟩
   | .exit id,⟨v,u,a,p⟩,q=>
     obtain⟨k,M,r⟩:=q.2 (by rw[g];rfl) rfl;exact⟨.returned v,u,p,i.trans (r.trans (.one (fenced_calm (fr:=b.atR z (.code (.exit id)::k)) j m rfl) (stepR_round_exit g x M a)))⟩
   | .goto t,⟨v,u,a,p⟩,q=>
     obtain⟨k,M,r⟩:=q.2 (by rw[g];rfl) rfl;exact⟨.returned v,u,p,i.trans (r.trans (.one (fenced_calm (fr:=b.atR z (.code (.goto t)::k)) j m rfl) (stepR_round_goto g x M a)))⟩
   | .outgrown,B,_=>exact B.elim
 | .exit _,o,_=>exact o.elim
 | .goto _,o,_=>exact o.elim
 | .ret,o,_=>exact o.elim
 | .panic _,o,_=>exact o.elim
 | .outgrown,o,_=>exact o.elim
def ma(b:UInt8):Bool:=decide (48<=b.toNat/\b.toNat<=57)
def mX(a:Nat)(l:List UInt8):Nat:=l.foldl (fun a b=>10*a+(b.toNat-48)) a
def mE(a):mX a []=a:=rfl
def lO(a b l):mX a (b::l)=mX (10*a+(b.toNat-48)) l:=by
 unfold mX;rw[List.foldl_cons]
attribute [irreducible] mX
def qZ:∀(l m:List UInt8)(a:Nat),mX a (l++m)=mX (mX a l) m
 |[],m,a=>by rw[mE,bD]
 |b::l,m,a=>by rw[bF,lO,qZ l m,lO]
def lA{k}(h:k<10):(UInt8.ofNat (48+k)).toNat=48+k:=by
 rw[UInt8.toNat_ofNat'];omega
def xd{k}(h:k<10):ma (UInt8.ofNat (48+k))=true:=by
 unfold ma;rw[lA h];simp;omega
def vY{b}(h:ma b=true):∃k,k<10/\b=UInt8.ofNat (48+k):=by
 unfold ma at h;have h:=bZ h;refine⟨b.toNat-48,by omega,?_⟩;rw[show 48+(b.toNat-48)=b.toNat by omega];exact(UInt8.ofNat_toNat).symm
def tQ(u):mX 0 (decDigits u)=u:=by
 induction u using Nat.strongRecOn with
 |_ u ih=>
  by_cases h:u<10
  .rw[nw h,lO,mE,lA h];omega
  .rw[decDigits,eJ h,qZ,ih (u/10) (by omega),lO,mE,lA (by omega)];omega
def nn(u):∀b∈decDigits u,ma b=true:=by
 induction u using Nat.strongRecOn with
 |_ u ih=>
  by_cases h:u<10
  .rw[nw h];intro b a;rw[aK.1 a];exact xd h
  .rw[decDigits,eJ h]
   intro b a
   obtain a|a:=bj.1 a
   .exact ih (u/10) (by omega) b a
   .rw[aK.1 a];exact xd (by omega)
def Bf{u}(h:0<u):∃k l,0<k/\k<10/\decDigits u=UInt8.ofNat (48+k)::l:=by
 induction u using Nat.strongRecOn with
 |_ u ih=>
  by_cases a:u<10
  .exact⟨u,[],h,a,nw a⟩
  .obtain⟨k,l,h1,h2,e⟩:=ih (u/10) (by omega) (by omega)
   refine⟨k,l++[UInt8.ofNat (48+u%10)],h1,h2,?_⟩;rw[decDigits,eJ a,e];rfl
def sE:∀(l:List UInt8)(a:Nat),mX a l=a*10^l.length+mX 0 l
 |[],a=>by rw[mE,mE,cI,dT];omega
 |b::l,a=>by
  rw[lO,lO,sE l (10*a+(b.toNat-48)),sE l (10*0+(b.toNat-48)),aH,bM];rw[eV,aV,dB,cd 10 a,ff,cd 10 (10^l.length)];omega
section
variable{P:Program}{ops:Array Oper}{Q:Exit->Act->World->Prop}{md:Region.Mode}
def Pb(P:Program)(md:Region.Mode)(ops:Array Oper)(Q:Exit->Act->World->Prop)(n:Nat):Nat->Array Bool->Act->World->Prop
 |0,listed,a,w=>Region.ready md ops listed=[]/\Q .normal a w
 |fuel+1,listed,a,w=>
  (Region.ready md ops listed=[]->Q .normal a w)/\
  ∀i∈Region.ready md ops listed,wpOp P ops Q i (fun a' w'=>(i<n->Below w w w')/\Pb P md ops Q n fuel (listed.setIfInBounds i true) a' w') a w
def vg{n:Nat}:∀(fuel:Nat)(b:Array Bool)(a:Act)(w:World),Pb P md ops Q n fuel b a w->wpAny P md ops Q fuel b a w
 |0,_,_,_,h=>h
 |fuel+1,_,_,_,h=>⟨h.1,fun i hi=>wpOp_mono (fun a' w' c=>vg fuel _ a' w' c.2) (h.2 i hi)⟩
def YieldsIf.stay{o:Oper}{v:Value}{a:Act}{w w':World}(h:YieldsIf P ops (fun x=>Below w w x) o v a)(b:Below w w w'):
 YieldsIf P ops (fun x=>Below w' w' x) o v a:=
 h.imp (fun⟨h1,h2⟩=>⟨h1,fun x c=>h2 x (b.trans (c.mono b.size))⟩) id
def J4{n i:Nat}{q:Oper}{v:Value}(hi:ops[i]? =some q)(t:∀(j:Nat)(o:Oper) cs b,ops[j]? =some o->o.op≠ .select cs b)
 (hs:Region.sinkB md ops n=true)(S:Region.chainB md ops n=true)(X:n<ops.size)(K:i<n)
 (N:∀c a w,Q (.panic c) (a.put q.dst v) w->Q (.panic c) a w):
 ∀(fuel:Nat)(d:Array Bool)(a:Act)(w:World),HeadInv md ops n d->
  (∀j r,ops[j]? =some r->j≠i->d.getD j true=false->(∀e∈r.after,Region.binds md e=true->e.on≠i)->q.apart ops r=true)->
  i∈Region.ready md ops d->YieldsIf P ops (fun x=>Below w.heap.size w x) q v a->
  Pb P md ops Q n fuel (d.setIfInBounds i true) (a.put q.dst v) w->Pb P md ops Q n (fuel+1) d a w:=by
 intro fuel
 induction fuel with
 |zero=>
  intro d a w _ _ p B H;refine⟨fun h=>(by rw[h]at p;cases p),fun j u=>?_⟩;by_cases f:j=i
  .subst f;exact B.wpOp hi (TH _ _) ⟨fun _=>TH _ _,H⟩
  .have:=ready_mono u f
   rw[H.1]at this;cases this
 |succ fuel ih=>
  intro d a w E g p B H;have m:=(mem_ready.1 p).1;refine⟨fun h=>(by rw[h]at p;cases p),fun j u=>?_⟩
  have D:j<n:=by
   obtain h|h:=dC j n
   .exact h
   .exact absurd u (tail_waits hs S X E _ i rfl K m j h)
  by_cases f:j=i
  .subst f;exact B.wpOp hi (TH _ _) ⟨fun _=>TH _ _,H⟩
  .have h1:=H.2 j (ready_mono u f)
   obtain⟨s,r,y,z⟩:=mem_ready.1 u
   have A:∀e∈r.after,Region.binds md e=true->e.on≠i:=fun e T R F=>by
    have h1:=z e T R;rw[F,getD_both m]at h1;cases h1
   have h2:=wpOp_putIf y (g j r y f s A) (fun cs b=>t i q cs b hi) (fun cs b=>t j r cs b y) N B h1
   have l:∀k ok,ops[k]? =some ok->k≠i->(d.setIfInBounds j true).getD k true=false->
    (∀e∈ok.after,Region.binds md e=true->e.on≠i)->q.apart ops ok=true:=fun k ok W L m M=>by
    refine g k ok W L ?_ M;by_cases C:j=k
    .subst C;exact s
    .rw[getD_set_ne true C]at m;exact m
   refine wpOp_mono (fun a' w' h3=>⟨h3.2.1,ih (d.setIfInBounds j true) a' w' (E.set u D) l (ready_mono p (fu f)) (YieldsIf.stay h3.1 (h3.2.1 D)) ?_⟩) h2;rw[cC _ _ f];exact h3.2.2
def vN(md:Region.Mode)(ops:Array Oper)(n:Nat):List (Nat×Bool)->Array Bool->Bool
 |[],listed=>Region.seqB md ops (ops.size-n) n listed
 |(i,t)::rest,listed=>(if t then(Region.ready md ops listed).contains i&&Region.free md ops listed i else decide (Region.ready md ops listed=[i]))&&decide (i<n)&&vN md ops n rest (listed.setIfInBounds i true)
def tA(P:Program)(ops:Array Oper)(Q:Exit->Act->World->Prop)(n:Nat):List (Nat×Bool)->Act->World->Prop
 |[],a,w=>wpList P ops Q (ops.toList.drop n) a w
 |(i,true)::rest,a,w=>∃o v,ops[i]? =some o/\YieldsIf P ops (fun x=>Below w.heap.size w x) o v a/\(∀c a w,Q (.panic c) (a.put o.dst v) w->Q (.panic c) a w)/\tA P ops Q n rest (a.put o.dst v) w
 |(i,false)::rest,a,w=>wpOp P ops Q i (fun a' w'=>Below w.heap.size w w'/\tA P ops Q n rest a' w') a w
def vh{n:Nat}{Q':Exit->Act->World->Prop}:∀(l:List Oper)(k:Nat)(b:Array Bool)(a:Act)(w:World),n<=k->(∀j,l[j]? =ops[k+j]?)->
 Region.seqB md ops l.length k b=true->wpList P ops Q' l a w->Pb P md ops Q' n l.length b a w
 |[],_,_,_,_,_,_,hB,h=>⟨by simpa[Region.seqB]using hB,h⟩
 |o::l,k,b,a,w,hk,hl,hB,h=>by
  have h0:ops[k]? =some o:=by simpa using(hl 0).symm
  simp only[aH,Region.seqB,am,aD]at hB;refine⟨fun h1=>(by rw[hB.1]at h1;cases h1),fun i hi=>?_⟩;rw[hB.1]at hi
  have c:i=k:=by simpa using hi
  subst c
  have hw:wpOp P ops Q' i (wpList P ops Q' l) a w:=by unfold wpOp;simp only[h0];exact h
  exact wpOp_mono (fun a' w' d=>⟨fun hlt=>absurd hlt (by omega),vh l (i+1) _ a' w' (by omega) (fun j=>by have:=hl (j+1);simpa[cN,fA 1 j]using this) hB.2 d⟩) hw
def vi{n:Nat}(c:Region.noSelect ops=true)(k:Region.sinkB md ops n=true)(f:Region.chainB md ops n=true)(g:n<ops.size):
 ∀(ord:List (Nat×Bool))(b:Array Bool)(a:Act)(w:World),HeadInv md ops n b->vN md ops n ord b=true->tA P ops Q n ord a w->
  Pb P md ops Q n (ord.length+(ops.size-n)) b a w
 |[],b,a,w,_,hB,h=>by
  have:=vh (md:=md) (n:=n) (Q':=Q) (ops.toList.drop n) n b a w (aa _) (fun j=>by simp[cp]) (by simpa[vN]using hB) h;simpa using this
 |(i,true)::rest,b,a,w,inv,hB,h=>by
  obtain⟨o,v,p,r,q,h⟩:=h;simp only[vN,bX,am,aD]at hB;obtain⟨⟨⟨h1,h2⟩,h3⟩,e⟩:=hB
  have d:i∈Region.ready md ops b:=by simpa using h1
  have:=J4 p (Region.noSelect_spec c) k f g h3 q _ b a w inv (Region.free_spec p h2) d r (vi c k f g rest _ _ w (inv.set d h3) e h);rw[aH,show rest.length+1+(ops.size-n)=rest.length+(ops.size-n)+1 by omega];exact this
 |(i,false)::rest,b,a,w,inv,hB,h=>by
  simp only[vN,bC,de,am,aD]at hB;obtain⟨⟨h1,h3⟩,e⟩:=hB
  have d:i∈Region.ready md ops b:=by rw[h1];simp
  rw[aH,show rest.length+1+(ops.size-n)=rest.length+(ops.size-n)+1 by omega];refine⟨fun h0=>(by rw[h0]at h1;cases h1),fun j m=>?_⟩;rw[h1]at m
  obtain rfl:j=i:=by simpa using m
  exact wpOp_mono (fun a' w' l=>⟨fun _=>l.1,vi c k f g rest _ a' w' (inv.set d h3) e l.2⟩) h
def wP(md:Region.Mode)(ops:Array Oper)(n:Nat)(ord:List (Nat×Bool)):Bool:=
 Region.noSelect ops&&decide (n<ops.size)&&decide (ord.length=n)&&Region.sinkB md ops n&&Region.chainB md ops n&&vN md ops n ord (Array.replicate ops.size false)
def gS{id:Nat}{a:Act}{w:World}(n:Nat)(ord:List (Nat×Bool))(g:P.follows .mixedOrders=true)(e:wP .any ops n ord=true)
 (h:tA P ops Q n ord a w.drew):(Code.region id ops true).wp P Q a w:=by
 simp only[wP,am,aD]at e;obtain⟨⟨⟨⟨⟨c,i⟩,b⟩,l⟩,f⟩,k⟩:=e
 have d:HeadInv .any ops n (Array.replicate ops.size false):=
  ⟨by simp,fun j o _ b=>(by rw[getD_replicate_false]at b;cases b),fun t _ m=>getD_in (by simpa using m) (getD_replicate_false _ _)⟩
 have:=vi (P:=P) (Q:=Q) c l f i ord _ a w.drew d k h;rw[b,show n+(ops.size-n)=ops.size by omega]at this;exact wp_region_any g (vg _ _ _ _ this)
def gU{n i:Nat}{b:List (Nat×Bool)}{o:Oper}{v:Value}{a:Act}{w:World}(d:∀x,Below w.heap.size w x->(execOp a.eval o).run P x=.ok (.value v) x)(h:tA P ops Q n b (a.put o.dst v) w)(hi:ops.toList[i]? =some o:=by rfl)(hQ:∀c a w,Q (.panic c) (a.put o.dst v) w->Q (.panic c) a w:=by exact fun _ _ _ h=>h)(hw:Region.wanted o (yielded ops a.tmps)=true:=by rfl):tA P ops Q n ((i,true)::b) a w:=
 ⟨o,v,by rw[<- bc];exact hi,VR ⟨hw,d⟩,hQ,h⟩
def Gq{n i:Nat}{b:List (Nat×Bool)}{o:Oper}{a:Act}{w:World}(hi:ops.toList[i]? =some o)(d:∀c a w,Q (.panic c) (a.put o.dst undef) w->Q (.panic c) a w)
 (hw:Region.wanted o (yielded ops a.tmps)=false)
 (h:tA P ops Q n b (a.put o.dst undef) w):tA P ops Q n ((i,true)::b) a w:=
 ⟨o,undef,by rw[<- bc];exact hi,VS ⟨hw,rfl⟩,d,h⟩
def gP{n i:Nat}{b:List (Nat×Bool)}{o:Oper}{a:Act}{w:World}(h:∀K:Act->World->Prop,(∀a' w',Below w w w'->tA P ops Q n b a' w'->K a' w')->o.wp P a w K Q)(hi:ops.toList[i]? =some o:=by rfl)(hg:o.guard=none:=by rfl):tA P ops Q n ((i,false)::b) a w:=by
 have hw:Region.wanted o (yielded ops a.tmps)=true:=by simp[Region.wanted,hg]
 rw[bc]at hi
 show wpOp P ops Q i _ a w
 unfold wpOp;simp only[hi,hw,bX];exact .inl (h _ fun a' w' h1 h2=>⟨h1,h2⟩)
def iu{n:Nat}{a:Act}{w:World}{l:List Oper}(b:ops.toList.drop n=l)(h:wpList P ops Q l a w):tA P ops Q n [] a w:=by
 subst b;exact h
end
section
def JO(d:FuncId)(P:Program)(c:Code)(Q:Exit->Act->World->Prop)(a:Act)(w:World):Prop:=
 ∀(b:Frame)(k:List Item)(cs:List Frame),b.roundOf=none->b.fn=d->
  ∃e a' w',Q e a' w'/\ArrivesIn (Machine.fenced P Fence.wide) P (lone (b.atR a (.code c::k)) cs w) b k cs e a' w'
variable{fn0:FuncId}{P:Program}{Q:Exit->Act->World->Prop}{a:Act}{w:World}
def Cs{c:Code}(h:c.wp P Q a w):JO fn0 P c Q a w:=fun b k cs d _=>(wpIn_wide (n:=0)).2 h b k cs d trivial (room_wide _)
def JP{x y:Code}(h:JO fn0 P x (Exit.then (JO fn0 P y Q) Q) a w):JO fn0 P (.seq x y) Q a w:=by
 intro b k cs l m;have h0:(lone (b.atR a (.code (.seq x y)::k)) cs w).fenced P Fence.wide:=fenced_calm (n:=0) trivial (room_wide _) rfl;obtain⟨e,f,g,d,c⟩:=h b (.code y::k) cs l m
 match e,d,c with
 | .normal,d,c=>
   obtain⟨q,p,r,o,j⟩:=d b k cs l m;exact⟨q,p,r,o,ArrivesIn.of_steps (StepsIn.head h0 stepR_seq c) j⟩
 | .exit i,d,c=>exact⟨_,f,g,d,.of_steps (.one h0 stepR_seq) (.pass (x:=.code y) rfl (fun _ _=>.inl (by simp)) c)⟩
 | .goto i,d,c=>exact⟨_,f,g,d,.of_steps (.one h0 stepR_seq) (.pass (x:=.code y) rfl (fun _ _=>.inl (by simp)) c)⟩
 | .ret,d,c=>exact⟨_,f,g,d,.of_steps (.one h0 stepR_seq) (.pass (x:=.code y) rfl (fun _ _=>.inl (by simp)) c)⟩
 | .panic ch,d,c=>exact⟨_,f,g,d,.of_steps (.one h0 stepR_seq) (.pass (x:=.code y) rfl (fun _ _=>.inl (by simp)) c)⟩
 | .outgrown,d,c=>exact⟨_,f,g,d,.of_steps (.one h0 stepR_seq) (.pass (x:=.code y) rfl (fun _ _=>.inl (by simp)) c)⟩
def oW{x y:Code}(h:∀K:Act->World->Prop,(∀a w,JO fn0 P y Q a w->K a w)->x.wp P (Exit.then K Q) a w):JO fn0 P (.seq x y) Q a w:=JP (Cs (h _ fun _ _ h=>h))
def SF(Q:Exit->Act->World->Prop)(e:Exit)(a:Act)(w:World):Prop:=
 match e with
 | .normal=>Q .normal a w
 | .panic ch=>Q (.panic ch) a w
 |_=>False
def Lw{id:Nat}{c:Code}(h:JO fn0 P c (SF Q) a w):JO fn0 P (.block id c) Q a w:=by
 intro b k cs i l;have h0:(lone (b.atR a (.code (.block id c)::k)) cs w).fenced P Fence.wide:=fenced_calm (n:=0) trivial (room_wide _) rfl;obtain⟨e,g,j,d,f⟩:=h b (.inBlock id::k) cs i l
 match e,d,f with
 | .normal,d,f=>exact⟨.normal,g,j,d,StepsIn.head h0 stepR_block (StepsIn.trans f (.one (fenced_calm (n:=0) trivial (room_wide _) rfl) stepR_inBlock))⟩
 | .panic ch,d,f=>exact⟨.panic ch,g,j,d,ArrivesIn.of_steps (.one h0 stepR_block) f⟩
 | .exit _,d,_=>exact d.elim
 | .goto _,d,_=>exact d.elim
 | .ret,d,_=>exact d.elim
 | .outgrown,d,_=>exact d.elim
def Lz{g:Operand}{z:Array Tmp}{assign body:Code}{l:Nat}{i:List Deferred}{C w₁' D:World}{d:Deferred}{f:FuncId}{args:Array Value}
 (A:(Instr.enterLoop fn0 a.tmps z assign body none).run P w=.ok (l,i) C)(s:(resolve a.eval (rangeCall g l) 0).run P C=.ok d w₁')(hinv:(invoke d.target d.args).run P w₁'=.ok (.enter f args) D)
 (q:Calls P f args D fun e o=>match e with
   | .returned _=>∃t,(Instr.endLoop l).run P o=.ok none t/\Q .normal {a with defers:=i++a.defers} t
   | .panicked j=>Q (.panic j) {a with defers:=i++a.defers} o
   | .outgrown=>False):JO fn0 P (.rangeFunc g z assign body) Q a w:=by
 intro b k cs B E;rw[<- E,<- B]at A;have h0:(lone (b.atR a (.code (.rangeFunc g z assign body)::k)) cs w).fenced P Fence.wide:=fenced_lone (.inl trivial) (fun _ _=>trivial) (room_wide _);have m:=stepR_rangeFunc (P:=P) (b:=b) (a:=a) (k:=k) (cs:=cs) (w:=w) A s hinv;obtain⟨e,o,fr,u,h,F,c⟩:=((callsIn_wide (n:=0)).2 q).2 (b.atR {a with defers:=i++a.defers} (.inRangeFunc l::k)::cs) (room_wide _)
 match e,u,h,c with
 | .outgrown,u,_,_=>exact u.elim
 | .returned v,⟨t,r,y⟩,h,c=>
   have x:(lone fr (b.atR {a with defers:=i++a.defers} (.inRangeFunc l::k)::cs) o).fenced P Fence.wide:=fenced_leaving (n:=0) trivial (room_wide _) c;refine⟨.normal,_,t,y,?_⟩
   have p:step P (lone fr (b.atR {a with defers:=i++a.defers} (.inRangeFunc l::k)::cs) o)=.next (lone (b.atR {a with defers:=i++a.defers} (.endRangeFunc l::k)) cs o):=by
    rw[<- finish_atR_inRangeFunc l v];exact step_leave_returned c
   exact StepsIn.head h0 m (StepsIn.trans h (StepsIn.head x p (.one (fenced_calm (n:=0) trivial (room_wide _) rfl) (stepR_endRangeFunc r))))
 | .panicked j,y,h,c=>
   have x:(lone fr (b.atR {a with defers:=i++a.defers} (.inRangeFunc l::k)::cs) o).fenced P Fence.wide:=fenced_leaving (n:=0) trivial (room_wide _) c;refine⟨.panic j,_,o,y,.inRangeFunc l::k,StepsIn.head h0 m (StepsIn.trans h (.one x ?_))⟩;rw[<- Frame.raise_atR];exact step_leave_panicked c
def DE{f:FuncId}{fn:Func}{c:Code}{args:Array Value}{R:Ending->World->Prop}(hf:P.funcs[f]? =some fn)(z:fn.body=some c)
 (h:JO f P c (bodyPostM Fence.wide 0 P fn R) {tmps:=args++Array.replicate (fn.ntmps-args.size) undef,defers:=[]} w):Calls P f args w R:=by
 refine(callsIn_wide (n:=0)).1 ⟨trivial,fun cs A=>?_⟩;obtain⟨b,p⟩:∃b:Frame,b={(default:Frame)with fn:=f,kind:=.normal,roundOf:=none}:=⟨_,rfl⟩
 have i:b.fn=f:=by rw[p]
 have q:b.kind=.normal:=by rw[p]
 have t:b.roundOf=none:=by rw[p]
 have l:Frame.enter P f args .normal=b.atR {tmps:=args++Array.replicate (fn.ntmps-args.size) undef,defers:=[]} [.code c]:=by
  rw[p];simp[Frame.enter,Frame.atR,hf,z]
 have u:P.funcs[b.fn]? =some fn:=by rw[i];exact hf
 obtain⟨e,a',w',d,a⟩:=h b [] cs t i;rw[l]
 match e,d,a with
 | .normal,d,a=>
   obtain⟨r,o,k,s,x,m,v⟩:=leaves_stepsInM a'.defers .returning w' {b.atR a' []with mode:=.returning} cs rfl rfl rfl u q trivial (room_wide _) d;exact⟨r,o,k,s,ComesIn.of_steps (StepsIn.trans a (.one (fenced_calm (n:=0) (fr:=b.atR a' []) trivial (room_wide _) rfl) (stepR_end t))) x,m.trans i,v⟩
 | .ret,d,a=>
   obtain⟨j,y⟩:=a.1 t;obtain⟨r,o,k,s,x,m,v⟩:=leaves_stepsInM a'.defers .returning w' {b.atR a' j with mode:=.returning} cs rfl rfl rfl u q trivial (room_wide _) d;exact⟨r,o,k,s,ComesIn.of_steps y x,m.trans i,v⟩
 | .panic g,d,a=>
   obtain⟨j,y⟩:=a;obtain⟨r,o,k,s,x,m,v⟩:=leaves_stepsInM a'.defers (.panicking g) w' {b.atR a' j with mode:=.panicking g} cs rfl rfl rfl u q trivial (room_wide _) d;exact⟨r,o,k,s,ComesIn.of_steps y x,m.trans i,v⟩
 | .exit _,d,_=>exact d.elim
 | .goto _,d,_=>exact d.elim
 | .outgrown,d,a=>exact⟨.outgrown,w',b,d,a.resolve_left (by rw[q];simp),i,trivial⟩
end
def SL(N:Nat)(w:World)(a:Option Addr)(n c:Nat)(zs:List Int):Prop:=
 n=zs.length/\n<=c/\(0<n-> ∃b off,a=some ⟨b,off,none⟩/\b<N/\ ∀j,j<n->w.cell? ⟨b,off+j,none⟩=some (.int .i64 (zs.getD j 0)))
def SL.len{N w a n c zs}(h:SL N w a n c zs):n=zs.length:=h.1
def SL.at{N w a n c zs}(h:SL N w a n c zs)(d:0<n):∃b off,a=some ⟨b,off,none⟩/\b<N/\ ∀j,j<n->w.cell? ⟨b,off+j,none⟩=some (.int .i64 (zs.getD j 0)):=h.2.2 d
def SL.cap{N w a n c zs}(h:SL N w a n c zs):n<=c:=h.2.1
def SL.below{N M w w' a n c zs}(h:SL N w a n c zs)(f:Below M w w')(d:N<=M):SL N w' a n c zs:=
 ⟨h.1,h.2.1,fun i=>let⟨b,off,e,hlt,hc⟩:=h.2.2 i;⟨b,off,e,hlt,fun j g=>(f.cell (p:=⟨b,off+j,none⟩) (ab hlt d)).trans (hc j g)⟩⟩
def SL.mono{N M w a n c zs}(h:SL N w a n c zs)(d:N<=M):SL M w a n c zs:=
 ⟨h.1,h.2.1,fun f=>let⟨b,off,e,hlt,hc⟩:=h.2.2 f;⟨b,off,e,ab hlt d,hc⟩⟩
def SL.go{w w' a n c zs}(h:SL w.heap.size w a n c zs)(b:Below w.heap.size w w'):SL w'.heap.size w' a n c zs:=
 (h.below b (aa _)).mono b.size
def SL.nil(N w a c):SL N w a 0 c []:=⟨rfl,aA _,fun h=>absurd h (by omega)⟩
def mO(w:World)(g:Nat)(cs:List Value)(t:TypeId):Prop:=∃a:List Value,w.heap[g]? =some (.cells (cs++a).toArray t (0,0))
def mO.lt{w g cs t}(h:mO w g cs t):g<w.heap.size:=let⟨_,h⟩:=h;TK h
def mO.cell{w g cs t}(h:mO w g cs t){j}(a:j<cs.length):w.cell? ⟨g,j,none⟩=some cs[j]:=by
 obtain⟨r,h⟩:=h;simp[World.cell?,h,aF a,ae a]
def mO.free{w g cs t}(h:mO w g cs t)(j):w.frozen? ⟨g,j,none⟩=false:=by
 obtain⟨r,h⟩:=h;simp[World.frozen?,h]
def mO.below{w w' g cs t B}(h:mO w g cs t)(a:Below B w w')(b:g<B):mO w' g cs t:=let⟨r,h⟩:=h;⟨r,(a.block g b).trans h⟩
def mO.set{w g cs t}(h:mO w g cs t)(j)(b:j<cs.length)(v):mO (w.setCell ⟨g,j,none⟩ v) g (cs.set j v) t:=by
 have hlt:=h.lt;obtain⟨r,h⟩:=h
 have a:w.heap[g]=.cells (cs++r).toArray t (0,0):=by simpa[dH hlt]using h
 refine⟨r,?_⟩
 show(w.heap.modify g _)[g]? =_
 rw[dH (by simpa using hlt),fW,a];simp[b]
def mO.other{w g cs t}(h:mO w g cs t)(p)(a:p.block≠g)(v):mO (w.setCell p v) g cs t:=
 let⟨r,h⟩:=h;⟨r,by rw[TI _ _ _ _ (fun e=>a e.symm)];exact h⟩
def vO(w:World)(g:Nat)(zs:List Int):Prop:=mO w g (zs.map (Value.int .i64)) 3
def vO.lt{w g zs}(h:vO w g zs):g<w.heap.size:=mO.lt h
def vO.cell{w g zs}(h:vO w g zs){j}(a:j<zs.length):w.cell? ⟨g,j,none⟩=some (.int .i64 (zs.getD j 0)):=by
 have:=mO.cell h (j:=j) (by simpa using a);simpa[ah,ae a]using this
def vO.free{w g zs}(h:vO w g zs)(j):w.frozen? ⟨g,j,none⟩=false:=mO.free h j
def vO.below{w w' g zs B}(h:vO w g zs)(a:Below B w w')(b:g<B):vO w' g zs:=mO.below h a b
def vO.set{w g zs}(h:vO w g zs)(j)(a:j<zs.length)(v):vO (w.setCell ⟨g,j,none⟩ (.int .i64 v)) g (zs.set j v):=by
 have:=mO.set h j (by simpa using a) (.int .i64 v);unfold vO;rw[List.map_set];exact this
def vO.sl{w g zs}(h:vO w g zs){c}(a:zs.length<=c):SL w.heap.size w (J g) zs.length c zs:=
 ⟨rfl,a,fun _=>⟨g,0,rfl,h.lt,fun j b=>by rw[aV];exact h.cell b⟩⟩
def vO.drew{w g zs}(h:vO w g zs)(k):vO (w.drewN k) g zs:=h
def gV{B a w}(h:Below B a w)(n):Below B a (w.drewN n):=h.trans ⟨rfl,rfl,rfl,aa _,fun _ _=>rfl⟩
def gJ{B w w' k}(h:Below B (w.drewN k) w'):Below B w w':=⟨h.os,h.tape,h.output,h.size,h.block⟩
def rp{w w':World}(a:Below w w w'):(∀b o,b<w.heap.size->w'.cell? ⟨b,o,none⟩=w.cell? ⟨b,o,none⟩)/\(∀b o,b<w.heap.size->w'.frozen? ⟨b,o,none⟩=w.frozen? ⟨b,o,none⟩):=
 ⟨fun b o h=>a.cell (p:=⟨b,o,none⟩) h,fun b o h=>a.frozen (p:=⟨b,o,none⟩) h⟩
def kS(B:Nat)(a:Option Addr)(n:Nat):Prop:=∀b off,a=some ⟨b,off,none⟩->0<n->B<=b
def kS.zero(B a):kS B a 0:=fun b off _ h=>absurd h (by omega)
def kS.mk{B g off}(h:B<=g)(n):kS B (some ⟨g,off,none⟩) n:=fun b o e _=>by cases e;exact h
def kS.mono{B c a n}(h:kS B a n)(d:c<=B):kS c a n:=fun b off e h0=>af d (h b off e h0)
def SL.setCell{N w a n c zs}(h:SL N w a n c zs)(p u)(d:∀b off,a=some ⟨b,off,Option.none⟩->0<n->b≠p.block):SL N (w.setCell p u) a n c zs:=by
 refine⟨h.1,h.2.1,fun h0=>?_⟩;obtain⟨b,off,e,hlt,g⟩:=h.2.2 h0;have f:=d b off e h0;exact⟨b,off,e,hlt,fun j i=>by rw[World.cell?_setCell_other _ _ _ _ (fun e=>f (ai Addr.block e).symm)];exact g j i⟩
def QE(w:World)(v:Value)(e:Ending)(w':World):Prop:=e=.returned v/\ ∃k,w'=w.drewN k
def iZ(w:World)(v:Value)(e:Ending)(w':World):Prop:=e=.returned v/\Below w w w'
def Tryz.infoInt:(prog.info? 3).map (fun i=>(i.zero,i.size,i.bytes))=some (some (.int .i64 0),1,8):=by kernel_rfl
def sd{t z s b}(h:(prog.info? t).map (fun i=>(i.zero,i.size,i.bytes))=some (some z,s,b)):
 ∃i,prog.info? t=some i/\i.zero=some z/\i.size=s/\i.bytes=b:=by
 cases hi:prog.info? t with
 |none=>rw[hi]at h;cases h
 |some i=>rw[hi]at h;simp at h;exact⟨i,rfl,h.1,h.2.1,h.2.2⟩
def MB(n):madeCells (Value.int .i64 0).cells n=((List.replicate n (0:Int)).map (Value.int .i64)).toArray:=by
 apply Array.ext
 .simp[madeCells]
 .intro i h1 h2
  simp[madeCells,Value.cells,Nat.mod_one]
def oE{w:World}{ops b o a}{Q:Exit->Act->World->Prop}(m:o.guard=none)(l c t)(e:o.op=Op.makeSlice t l c)(r:prog.underlying t=some (.slice 3))(L)(n:Nat)(p:a.eval l=.int .i64 L)(k:a.eval c=.int .i64 L)(h:L=(n:Int))(u:n<=10000000000000)(g:∀w',vO w' w (List.replicate n 0)->Below w w w'->wpList prog ops Q b (a.put o.dst (.slice (J (w.heap.size)) n n)) w'):
 wpList prog ops Q (o::b) a w:=by
 refine eT m fun K d=>?_
 obtain⟨i,hi,s,q,j⟩:=sd Tryz.infoInt;subst h;have f:=run_make (P:=prog) w t 3 i _ r hi s .i64 .i64 (n:Int) (n:Int) (by omega) (by omega) (by rw[j];omega) (by omega);rw[q,aI,dn,MB]at f;unfold Oper.wp;simp[execOp,e,p,k,f,Result.andThen];refine d _ _ (g _ ?_ ((TH _ _).alloc (aa _) _));refine⟨[],?_⟩;rw[TL];simp
def mz{w base t size v n xs}(h:w.ownsRow base t size v n xs):
 xs.length=n*size/\((v=.slice none 0 0/\n=0)\/ ∃g cap,v=.slice (J g) n cap/\base<=g/\n<=cap/\mO w g xs t):=by
 refine⟨h.1,h.2.imp id ?_⟩;rintro⟨g,cap,a,rfl,b,d,c,_,_,e⟩;refine⟨g,cap,rfl,b,c,a.toList.drop (n*size),?_⟩;rw[d,<- e,cA]
def mS{w ops d o a}{Q:Exit->Act->World->Prop}(g:o.guard=none)(s x t)(y:o.op=.call {callee:=.builtin .append,args:=#[s,x],argTypes:=#[t,t]})(base e z size bytes)(ht:prog.underlying t=some (.slice e))(hi:(prog.info? e).map (fun i=>(i.zero,i.size,i.bytes))=some (some z,size,bytes))(hzs:z.cells.size=size)(hsz:0<size)(v n xs)(hs:a.eval s=v)(hown:w.ownsRow base e size v n xs)(sp m c news)(hx:a.eval x=.slice sp m c)(hl:news.length=m*size)(hnews:0<m-> ∃b off,sp=some ⟨b,off,none⟩/\ ∀j u,news[j]? =some u->w.cell? ⟨b,off+j,none⟩=some u)(h1:∀u∈news,u.oneCell'=true)(hmn:sp=none->m=0/\c=0)(hb:(n+m)*bytes<=140737488355328)(hb2:n+m<=140737488355328)(hbase:base<=w.heap.size)(h:∀f w',w'.ownsRow base e size f (n+m) (xs++news)->w.grownBy w' v.ownBlock->wpList prog ops Q d (a.put o.dst f) w'):
 wpList prog ops Q (o::d) a w:=by
 obtain⟨i,k,p,q,r⟩:=sd hi
 cases sp with
 |none=>
  obtain⟨rfl,rfl⟩:=hmn rfl;obtain rfl:news=[]:=ec (by simpa using hl);refine wpList_append_own_none g s x t y base e i size ht k v n xs hs hown hx ?_;exact h v w (by simpa using hown) ⟨rfl,rfl,rfl,aa _,fun _ _ _=>rfl⟩
 |some A=>
  refine wpList_append_own w g s x t y base e i z size bytes ht k p q r hzs hsz v n xs hs hown A m c news hx hl ?_ h1 (by unfold maxLen;omega) hb hbase (fun f w' h2 h3 _=>h f w' h2 h3);intro j u l;by_cases D:0<m
  .obtain⟨b,off,C,B⟩:=hnews D
   obtain rfl:=aE C;have:=B j u l;unfold Addr.add;by_cases h0:j=0
   .subst h0;simpa using this
   .simpa[h0]using this
  .have:news.length=0:=by rw[hl,show m=0 by omega];simp
   rw[ec this]at l;simp at l
def ju{w ops d o a}{Q:Exit->Act->World->Prop}(p:o.guard=none)(s x t)(y:o.op=.call {callee:=.builtin .append,args:=#[s,x],argTypes:=#[t,t]})(ht:prog.underlying t=some (.slice 3))(base v n zs)(hs:a.eval s=v)(hown:w.ownsRow base 3 1 v n (zs.map (Value.int .i64)))(N sp m c xs)(hx:a.eval x=.slice sp m c)(hsl:SL N w sp m c xs)(hmn:sp=none->c=0)(hb:n+m<=10000000000000)(hbase:base<=w.heap.size)(h:∀i w',w'.ownsRow base 3 1 i (n+m) ((zs++xs).map (Value.int .i64))->w.grownBy w' v.ownBlock->wpList prog ops Q d (a.put o.dst i) w'):
 wpList prog ops Q (o::d) a w:=by
 refine mS p s x t y base 3 (.int .i64 0) 1 8 ht Tryz.infoInt (by simp[Value.cells]) (by omega) v n _ hs hown sp m c (xs.map (Value.int .i64)) hx (by simp[hsl.len]) ?_ (by simp[Value.oneCell']) ?_ (by omega) (by omega) hbase ?_
 .intro r
  obtain⟨b,off,e,_,q⟩:=hsl.2.2 r;refine⟨b,off,e,fun j u f=>?_⟩
  have k:j<xs.length:=by
   apply bg;intro g
   rw[bz (by simp;omega)]at f;cases f
  have:=q j (by have:=hsl.len;omega);rw[aR,ae k]at f;simp at f;subst f;rw[this,ah,ae k];rfl
 .intro e
  refine⟨?_,hmn e⟩
  apply bg;intro g
  obtain⟨b,off,l,_⟩:=hsl.2.2 (by omega);rw[e]at l;cases l
 .intro i w' h2 h3
  rw[<- aT]at h2;exact h i w' h2 h3
def mA{w a:World}{o}(b:Below (w.alloc o).heap.size (w.alloc o) a):Below w w a:=
 ((TH _ _).alloc (aa _) _).trans (b.mono (by simp))
def SL.alloc{w:World}{a n c zs}(h:SL w w a n c zs)(o):SL (w.alloc o).heap.size (w.alloc o) a n c zs:=
 h.go ((TH _ _).alloc (aa _) _)
def SL.one(w:World)(x:Int)(t):SL (w.alloc (.cells #[x] t)).heap.size (w.alloc (.cells #[x] t)) (J (w.heap.size)) 1 1 [x]:=
 ⟨rfl,aa _,fun _=>⟨w.heap.size,0,rfl,by simp,fun j a=>by
   obtain rfl:j=0:=by omega
   exact World.cell?_alloc_at _ _ _ _ rfl⟩⟩
def kx{w:World}{base t size v n xs}(h:w.ownsRow base t size v n xs):∃a c,v=.slice a n c:=by
 obtain ⟨rfl,rfl⟩|⟨g,cap,b,rfl,_⟩:=h.2
 .exact⟨_,_,rfl⟩
 .exact⟨_,_,rfl⟩
def ur{w:World}{base t a n c zs}(h:w.ownsRow base t 1 (.slice a n c) n (zs.map (Value.int .i64))):SL w w a n c zs:=by
 have d:=h.1;simp at d
 rcases(mz h).2 with⟨e,rfl⟩|⟨g,cap,e,_,f,b⟩
 .cases ec d
  exact SL.nil _ _ _ _
 .injection e with e1 e2 e3
  subst e1 e3;refine⟨d.symm,f,fun _=>⟨g,0,rfl,b.lt,fun j i=>?_⟩⟩;rw[aV,b.cell (by simp;omega)];simp[ah,ae (show j<zs.length by omega)]
def jI{w w':World}{o base t size v n xs}(a:w.ownsRow base t size v n xs)(d:(w.alloc o).grownBy w' v.ownBlock){b}(f:b<base)(c:base<=w.heap.size):w'.heap[b]? =w.heap[b]? :=by
 rw[d.block b (by simp;omega) (fun e=>by have:=(a.lt b e.symm).1;omega),TJ _ _ _ (by omega)]
def jF{w0 w w' o base B t size v n xs}(c:Below B w0 w)(a:w.ownsRow base t size v n xs)(d:(w.alloc o).grownBy w' v.ownBlock)(f:B<=base)(b:base<=w.heap.size):Below B w0 w':=
 (c.alloc (by omega) o).grown d (by simp;omega) (fun k e=>by have:=(a.lt k e).1;omega)
def gG{w:World}{b cs t}(h:w.heap[b]? =some (.cells cs t (0,0)))(i u):
 (w.setCell ⟨b,i,none⟩ u).heap[b]? =some (.cells (cs.setIfInBounds i u) t (0,0)):=by
 have hlt:=TK h
 have a:w.heap[b]=.cells cs t (0,0):=by simpa[dH hlt]using h
 show(w.heap.modify b _)[b]? =_
 rw[dH (by simpa using hlt),fW,a];rfl
def gF{w:World}{b o}(h:w.heap[b]? =some o)(p)(a:p.block≠b)(u):(w.setCell p u).heap[b]? =some o:=
 (TI _ _ _ _ (fun e=>a e.symm)).trans h
def oe:∀(d r:Nat),r<10^d-> ∀b∈jf d r,ma b=true
 |0,_,_,b,hb=>by simp[jf]at hb
 |d+1,r,h,b,hb=>by
  have a:0<10^d:=cy (by omega);rw[jf]at hb;by_cases c:r=0
  .rw[aq c]at hb;cases hb
  .rw[aj c]at hb
   obtain rfl|hb:=aS.1 hb
   .exact xd (by rw[cK a];rw[bM]at h;omega)
   .exact oe d _ (cx _ a) b hb
def pG:∀(d r:Nat),(jf d r).length<=d
 |0,_=>aa _
 |d+1,r=>by
  rw[jf];split
  .exact aA _
  .rw[aH];exact Nat.succ_le_succ (pG d _)
def vZ:∀(d r:Nat),r<10^d->mX 0 (jf d r)*10^(d-(jf d r).length)=r
 |0,r,h=>by rw[dT]at h;rw[jf,mE];omega
 |d+1,r,h=>by
  have b:0<10^d:=cy (by omega);rw[jf];by_cases a:r=0
  .rw[aq a,mE,a,eB]
  .rw[aj a]
   have c:r/10^d<10:=by rw[cK b];rw[bM]at h;omega
   have e:=vZ d (r%10^d) (cx _ b);have f:=pG d (r%10^d);rw[lO,lA c,sE,aH,dB,ff,<- dm];rw[show d+1-((jf d (r%10^d)).length+1)=d-(jf d (r%10^d)).length by omega,e];rw[show(jf d (r%10^d)).length+(d-(jf d (r%10^d)).length)=d by omega];rw[eV,aV,dR];have:=dc r (10^d);rw[cd]at this;exact this
section
variable{P:Program}{ops:Array Oper}{Q:Exit->Act->World->Prop}{md:Region.Mode}
def MC{j:Nat}{g:Oper}{d:Tmp}{u:Value}(t:ops[j]? =some g)(h1:d ∉ g.looksAt ops)(h2:g.dst≠some d)
 (o:∀cs b,g.op≠ .select cs b)(s:∀c a w,Q (.panic c) a w->Q (.panic c) (a.put (some d) u) w){K q:Act->World->Prop}{a:Act}{w:World}
 (l:∀a' w',K a' w'->q (a'.put (some d) u) w')(h:wpOp P ops Q j K a w):wpOp P ops Q j q (a.put (some d) u) w:=by
 have m:∀e,some d=some e->e ∉ g.looksAt ops:=fun e k=>by cases k;exact h1
 have i:∀e,(some d:Option Tmp)=some e->g.dst≠some e:=fun e k=>by cases k;exact h2
 unfold wpOp at*;simp only[t]at*;rw[wanted_put g a (some d) u m];split
 .rename_i hw
  simp only[hw,bX]at h
  obtain h|⟨hasks,hlets⟩:=h
  case inr=>exact .inr ⟨by unfold Oper.asks at*;rw[execOp_put g o a (some d) u m];exact hasks,hlets⟩
  refine .inl ?_;unfold Oper.wp at*;rw[execOp_put g o a (some d) u m];generalize(execOp a.eval g).run P w=r at*
  cases r with
  |ok n w'=>
   cases n<;>simp only[Oper.upon]at h⊢
   case value v=>rw[Act.put_comm a u v i];exact l _ _ h
   case skip=>rw[Act.put_comm a u undef i];exact l _ _ h
   case defer e=>
    rw[Act.put_defers,Act.put_comm _ u undef i];exact l _ _ h
   case enter f args=>
    refine Calls.mono h fun e p k=>?_
    cases e with
    |returned v=>
     show q ((a.put (some d) u).put g.dst v) p
     rw[Act.put_comm a u v i];exact l _ _ k
    |panicked c=>exact s _ _ _ k
    |outgrown=>exact k
   case row row args=>exact Rows.mono h fun v p k=>by rw[Act.put_comm a u v i];exact l _ _ k
  |halt x w'=>
   cases x<;>simp only[Oper.upon]at h⊢
   case panic v=>exact s _ _ _ h
 .rename_i hw
  simp only[hw]at h;rw[Act.put_comm a u undef i];exact l _ _ h
def J5{x y:Oper}{d:Tmp}(a:x.dst=some d)(h:x.apart ops y=true):d ∉ y.looksAt ops/\y.dst≠some d:=
 let⟨h1,h2,_⟩:=Oper.apart_spec h;⟨h1 d a,h2 d a⟩
end
section
variable{B:Nat}{P:Program}{ops:Array Oper}{Q:Exit->Act->World->Prop}{md:Region.Mode}
def qR(B:Nat)(P:Program)(md:Region.Mode)(ops:Array Oper)(Q:Exit->Act->World->Prop)(n:Nat):Nat->Array Bool->Act->World->Prop
 |0,listed,a,w=>Region.ready md ops listed=[]/\Q .normal a w
 |fuel+1,listed,a,w=>
  (Region.ready md ops listed=[]->Q .normal a w)/\
  ∀i∈Region.ready md ops listed,wpOp P ops Q i (fun a' w'=>(i<n->Below B w w')/\qR B P md ops Q n fuel (listed.setIfInBounds i true) a' w') a w
def tC{n:Nat}:∀(fuel:Nat)(b:Array Bool)(a:Act)(w:World),qR B P md ops Q n fuel b a w->wpAny P md ops Q fuel b a w
 |0,_,_,_,h=>h
 |fuel+1,_,_,_,h=>⟨h.1,fun i hi=>wpOp_mono (fun a' w' c=>tC fuel _ a' w' c.2) (h.2 i hi)⟩
def YieldsIf.stayB{o:Oper}{v:Value}{a:Act}{w w':World}(h:YieldsIf P ops (fun x=>Below B w x) o v a)(b:Below B w w'):
 YieldsIf P ops (fun x=>Below B w' x) o v a:=
 h.imp (fun⟨h1,h2⟩=>⟨h1,fun x c=>h2 x (b.trans c)⟩) id
def Gu{n i:Nat}{q:Oper}{v:Value}(hi:ops[i]? =some q)(t:∀(j:Nat)(o:Oper) cs b,ops[j]? =some o->o.op≠ .select cs b)
 (hs:Region.sinkB md ops n=true)(T:Region.chainB md ops n=true)(hn:n<ops.size)(L:i<n)
 (R:∀c a w,Q (.panic c) (a.put q.dst v) w->Q (.panic c) a w):
 ∀(fuel:Nat)(d:Array Bool)(a:Act)(w:World),HeadInv md ops n d->
  (∀j r,ops[j]? =some r->j≠i->d.getD j true=false->(∀e∈r.after,Region.binds md e=true->e.on≠i)->q.apart ops r=true)->
  i∈Region.ready md ops d->YieldsIf P ops (fun x=>Below B w x) q v a->
  qR B P md ops Q n fuel (d.setIfInBounds i true) (a.put q.dst v) w->qR B P md ops Q n (fuel+1) d a w:=by
 intro fuel
 induction fuel with
 |zero=>
  intro d a w _ _ p C H;refine⟨fun h=>(by rw[h]at p;cases p),fun j u=>?_⟩;by_cases f:j=i
  .subst f;exact C.wpOp hi (TH _ _) ⟨fun _=>TH _ _,H⟩
  .have:=ready_mono u f
   rw[H.1]at this;cases this
 |succ fuel ih=>
  intro d a w F g p C H;have m:=(mem_ready.1 p).1;refine⟨fun h=>(by rw[h]at p;cases p),fun j u=>?_⟩
  have E:j<n:=by
   obtain h|h:=dC j n
   .exact h
   .exact absurd u (tail_waits hs T hn F _ i rfl L m j h)
  by_cases f:j=i
  .subst f;exact C.wpOp hi (TH _ _) ⟨fun _=>TH _ _,H⟩
  .have h1:=H.2 j (ready_mono u f)
   obtain⟨s,r,y,z⟩:=mem_ready.1 u
   have A:∀e∈r.after,Region.binds md e=true->e.on≠i:=fun e W S K=>by
    have h1:=z e W S;rw[K,getD_both m]at h1;cases h1
   have h2:=wpOp_putIf y (g j r y f s A) (fun cs b=>t i q cs b hi) (fun cs b=>t j r cs b y) R C h1
   have l:∀k ok,ops[k]? =some ok->k≠i->(d.setIfInBounds j true).getD k true=false->
    (∀e∈ok.after,Region.binds md e=true->e.on≠i)->q.apart ops ok=true:=fun k ok X M m N=>by
    refine g k ok X M ?_ N;by_cases D:j=k
    .subst D;exact s
    .rw[getD_set_ne true D]at m;exact m
   refine wpOp_mono (fun a' w' h3=>⟨h3.2.1,ih (d.setIfInBounds j true) a' w' (F.set u E) l (ready_mono p (fu f)) (YieldsIf.stayB h3.1 (h3.2.1 E)) ?_⟩) h2;rw[cC _ _ f];exact h3.2.2
def sf(B:Nat)(P:Program)(ops:Array Oper)(Q:Exit->Act->World->Prop)(n:Nat):List (Nat×Bool)->Act->World->Prop
 |[],a,w=>wpList P ops Q (ops.toList.drop n) a w
 |(i,true)::rest,a,w=>∃o v,ops[i]? =some o/\YieldsIf P ops (fun x=>Below B w x) o v a/\(∀c a w,Q (.panic c) (a.put o.dst v) w->Q (.panic c) a w)/\sf B P ops Q n rest (a.put o.dst v) w
 |(i,false)::rest,a,w=>wpOp P ops Q i (fun a' w'=>Below B w w'/\sf B P ops Q n rest a' w') a w
def xF{n:Nat}{Q':Exit->Act->World->Prop}:∀(l:List Oper)(k:Nat)(b:Array Bool)(a:Act)(w:World),n<=k->(∀j,l[j]? =ops[k+j]?)->
 Region.seqB md ops l.length k b=true->wpList P ops Q' l a w->qR B P md ops Q' n l.length b a w
 |[],_,_,_,_,_,_,hB,h=>⟨by simpa[Region.seqB]using hB,h⟩
 |o::l,k,b,a,w,hk,hl,hB,h=>by
  have h0:ops[k]? =some o:=by simpa using(hl 0).symm
  simp only[aH,Region.seqB,am,aD]at hB;refine⟨fun h1=>(by rw[hB.1]at h1;cases h1),fun i hi=>?_⟩;rw[hB.1]at hi
  have c:i=k:=by simpa using hi
  subst c
  have hw:wpOp P ops Q' i (wpList P ops Q' l) a w:=by unfold wpOp;simp only[h0];exact h
  exact wpOp_mono (fun a' w' d=>⟨fun hlt=>absurd hlt (by omega),xF l (i+1) _ a' w' (by omega) (fun j=>by have:=hl (j+1);simpa[cN,fA 1 j]using this) hB.2 d⟩) hw
def tD{n:Nat}(c:Region.noSelect ops=true)(k:Region.sinkB md ops n=true)(f:Region.chainB md ops n=true)(g:n<ops.size):
 ∀(ord:List (Nat×Bool))(b:Array Bool)(a:Act)(w:World),HeadInv md ops n b->vN md ops n ord b=true->sf B P ops Q n ord a w->
  qR B P md ops Q n (ord.length+(ops.size-n)) b a w
 |[],b,a,w,_,hB,h=>by
  have:=xF (B:=B) (md:=md) (n:=n) (Q':=Q) (ops.toList.drop n) n b a w (aa _) (fun j=>by simp[cp]) (by simpa[vN]using hB) h;simpa using this
 |(i,true)::rest,b,a,w,inv,hB,h=>by
  obtain⟨o,v,p,r,q,h⟩:=h;simp only[vN,bX,am,aD]at hB;obtain⟨⟨⟨h1,h2⟩,h3⟩,e⟩:=hB
  have d:i∈Region.ready md ops b:=by simpa using h1
  have:=Gu p (Region.noSelect_spec c) k f g h3 q _ b a w inv (Region.free_spec p h2) d r (tD c k f g rest _ _ w (inv.set d h3) e h);rw[aH,show rest.length+1+(ops.size-n)=rest.length+(ops.size-n)+1 by omega];exact this
 |(i,false)::rest,b,a,w,inv,hB,h=>by
  simp only[vN,bC,de,am,aD]at hB;obtain⟨⟨h1,h3⟩,e⟩:=hB
  have d:i∈Region.ready md ops b:=by rw[h1];simp
  rw[aH,show rest.length+1+(ops.size-n)=rest.length+(ops.size-n)+1 by omega];refine⟨fun h0=>(by rw[h0]at h1;cases h1),fun j m=>?_⟩;rw[h1]at m
  obtain rfl:j=i:=by simpa using m
  exact wpOp_mono (fun a' w' l=>⟨fun _=>l.1,tD c k f g rest _ a' w' (inv.set d h3) e l.2⟩) h
def wT{id:Nat}{a:Act}{w:World}(n:Nat)(ord:List (Nat×Bool))(g:P.follows .mixedOrders=true)(e:wP .any ops n ord=true)
 (h:sf B P ops Q n ord a w.drew):(Code.region id ops true).wp P Q a w:=by
 simp only[wP,am,aD]at e;obtain⟨⟨⟨⟨⟨c,i⟩,b⟩,l⟩,f⟩,k⟩:=e
 have d:HeadInv .any ops n (Array.replicate ops.size false):=
  ⟨by simp,fun j o _ b=>(by rw[getD_replicate_false]at b;cases b),fun t _ m=>getD_in (by simpa using m) (getD_replicate_false _ _)⟩
 have:=tD (P:=P) (Q:=Q) c l f i ord _ a w.drew d k h;rw[b,show n+(ops.size-n)=ops.size by omega]at this;exact wp_region_any g (tC _ _ _ _ this)
def si{n i:Nat}{b:List (Nat×Bool)}{o:Oper}{v:Value}{a:Act}{w:World}(hi:ops.toList[i]? =some o)(d:∀c a w,Q (.panic c) (a.put o.dst v) w->Q (.panic c) a w)
 (hw:Region.wanted o (yielded ops a.tmps)=true)(e:∀x,Below B w x->(execOp a.eval o).run P x=.ok (.value v) x)
 (h:sf B P ops Q n b (a.put o.dst v) w):sf B P ops Q n ((i,true)::b) a w:=
 ⟨o,v,by rw[<- bc];exact hi,VR ⟨hw,e⟩,d,h⟩
def xG{n i:Nat}{b:List (Nat×Bool)}{o:Oper}{a:Act}{w:World}(hi:ops.toList[i]? =some o)(c:o.guard=none)
 (h:∀K:Act->World->Prop,(∀a' w',Below B w w'->sf B P ops Q n b a' w'->K a' w')->o.wp P a w K Q):sf B P ops Q n ((i,false)::b) a w:=by
 have hw:Region.wanted o (yielded ops a.tmps)=true:=by simp[Region.wanted,c]
 rw[bc]at hi
 show wpOp P ops Q i _ a w
 unfold wpOp;simp only[hi,hw,bX];exact .inl (h _ fun a' w' h1 h2=>⟨h1,h2⟩)
def Gv{n:Nat}{a:Act}{w:World}{l:List Oper}(b:ops.toList.drop n=l)(h:wpList P ops Q l a w):sf B P ops Q n [] a w:=by
 subst b;exact h
end
def we(t:List UInt8):Option Nat:=
 let w:=t.takeWhile ma
 if w=[]\/(1<w.length/\w.head?=some 48)then none
 else match t.dropWhile ma with
  |[]=>some 0
  |b::f=>if b=46/\f≠[]/\f.all ma=true/\f.getLast?≠some 48 then some f.length else none
def oS(s:List UInt8):Bool×List UInt8:=match s with
 |45::t=>(true,t)
 |s=>(false,s)
def li(s:List UInt8):Option Nat:=if s=[45,48]then none else we (oS s).2
def wg(s:List UInt8):Int:=if(oS s).1 then -((mX 0 (s.filter ma):Nat):Int)else((mX 0 (s.filter ma):Nat):Int)
def Qy{b}(h:ma b=true):(b==46)=false:=by
 obtain⟨k,c,rfl⟩:=vY h;rw[ak];intro e;have:=ai UInt8.toNat e;rw[lA c]at this;have a:(46:UInt8).toNat=46:=rfl;rw[a]at this;omega
def Qz{b}(h:ma b=true):b≠45:=by
 obtain⟨k,c,rfl⟩:=vY h;intro e;have:=ai UInt8.toNat e;rw[lA c]at this;have a:(45:UInt8).toNat=45:=rfl;rw[a]at this;omega
def sF{l:List UInt8}(h:l.all ma=true):l.filter ma=l:=List.filter_eq_self.2 (an.1 h)
def GR{t p}(h:we t=some p):∃w f,w.all ma=true/\w≠[]/\(w.length=1\/w.head?≠some 48)/\f.all ma=true/\f.getLast?≠some 48/\f.length=p/\t=w++(if f=[]then[]else 46::f):=by
 unfold we at h;simp only[]at h;split at h
 .cases h
 .rename_i hw
  have c:t.takeWhile ma≠[]:=fun e=>hw (.inl e)
  have d:(t.takeWhile ma).length=1\/(t.takeWhile ma).head?≠some 48:=by
   by_cases h1:1<(t.takeWhile ma).length
   .exact .inr fun e=>hw (.inr ⟨h1,e⟩)
   .have:0<(t.takeWhile ma).length:=ez.2 c
    exact .inl (by omega)
  have a:(t.takeWhile ma).all ma=true:=eF;have g:t.takeWhile ma++t.dropWhile ma=t:=dX;split at h
  .rename_i e
   cases h;refine⟨t.takeWhile ma,[],a,c,d,rfl,by simp,rfl,?_⟩;rw[e]at g;rw[aq rfl];exact g.symm
  .rename_i b f e
   split at h
   .rename_i hf
    cases h;refine⟨t.takeWhile ma,f,a,c,d,hf.2.2.1,hf.2.2.2,rfl,?_⟩;rw[aj hf.2.1,<- hf.1,<- e];exact g.symm
   .cases h
section
def qu0:=@underlying0
def qi0:=@isAgg0
def qs0:=@sizeOf0
def qz0:=@zeroValue0
def qu3:=@underlying3
def qi3:=@isAgg3
def qs3:=@sizeOf3
def qz3:=@zeroValue3
def qu9:=@underlying9
def qi9:=@isAgg9
def qs9:=@sizeOf9
def qz9:=@zeroValue9
def qu24:=@underlying24
def qz24:=@zeroValue24
def qu84:=@underlying84
def qz84:=@zeroValue84
def qu86:=@underlying86
def qz86:=@zeroValue86
def qu146:=@underlying146
def qz146:=@zeroValue146
def qu5:=@underlying5
def qi5:=@isAgg5
def qs5:=@sizeOf5
def qz5:=@zeroValue5
def qu4:=@underlying4
def qi4:=@isAgg4
def qs4:=@sizeOf4
def qz4:=@zeroValue4
def qu20:=@underlying20
def qz20:=@zeroValue20
def qu88:=@underlying88
def qz88:=@zeroValue88
def qu141:=@underlying141
def qz141:=@zeroValue141
def qu21:=@underlying21
def qz21:=@zeroValue21
def qu137:=@underlying137
def qs137:=@sizeOf137
def qz137:=@zeroValue137
def qu192:=@underlying192
def qz192:=@zeroValue192
def qu193:=@underlying193
def qz193:=@zeroValue193
def Tryz.lays169_ren:Go.Shelf.Ren:=⟨fun|169=>30|n=>n,fun|70=>84|9=>9|0=>0|72=>86|37=>24|127=>146|3=>3|5=>5|n=>n,fun|n=>n⟩
def Tryz.lays169:Go.Proofs.Lays.n169 prog Tryz.lays169_ren:=⟨by kernel_rfl,func30.trans (congrArg some (by kernel_rfl)),qu0,qi0,qs0,qz0,qu3,qi3,qs3,qz3,qu9,qi9,qs9,qz9,qu24,isAgg24,sizeOf24,qz24,qu84,isAgg84,sizeOf84,qz84,qu86,isAgg86,sizeOf86,qz86,qu146,isAgg146,sizeOf146,qz146⟩
def Tryz.Builder_Extra_169:Builder.Extra prog Tryz.lays169_ren:={
 sizeBuilder:=by kernel_rfl
 liesBuilder:=by kernel_rfl
 t5:=qu5
 a5:=qi5
 z5:=qs5
 v5:=qz5
 infoByte:=by kernel_rfl
 cellsByte:=by kernel_rfl
 sizeByte:=by kernel_rfl
 neB5:=by decide}
def Tryz.lays156_ren:Go.Shelf.Ren:=⟨fun|156=>31|165=>59|166=>60|169=>30|240=>62|241=>98|276=>99|277=>141|n=>n,fun|31=>52|9=>9|3=>3|4=>4|0=>0|20=>20|72=>86|76=>141|70=>84|37=>24|75=>88|127=>146|164=>198|5=>5|80=>94|n=>n,fun|n=>n⟩
def Tryz.lays156:Go.Proofs.Lays.n156 prog Tryz.lays156_ren:=⟨by kernel_rfl,func31.trans (congrArg some (by kernel_rfl)),func59.trans (congrArg some (by kernel_rfl)),func60.trans (congrArg some (by kernel_rfl)),func30.trans (congrArg some (by kernel_rfl)),func62.trans (congrArg some (by kernel_rfl)),func98.trans (congrArg some (by kernel_rfl)),func99.trans (congrArg some (by kernel_rfl)),func141.trans (congrArg some (by kernel_rfl)),qu0,qi0,qs0,qz0,qu3,qi3,qs3,qz3,qu4,qi4,qs4,qz4,qu9,qi9,qs9,qz9,qu20,isAgg20,sizeOf20,qz20,underlying52,isAgg52,sizeOf52,zeroValue52,qu24,isAgg24,sizeOf24,qz24,qu84,isAgg84,sizeOf84,qz84,qu86,isAgg86,sizeOf86,qz86,qu88,isAgg88,sizeOf88,qz88,qu141,isAgg141,sizeOf141,qz141,qu146,isAgg146,sizeOf146,qz146,underlying198,isAgg198,sizeOf198,zeroValue198⟩
def Tryz.Builder_Extra_156:Builder.Extra prog Tryz.lays156_ren:={
 sizeBuilder:=by kernel_rfl
 liesBuilder:=by kernel_rfl
 t5:=qu5
 a5:=qi5
 z5:=qs5
 v5:=qz5
 infoByte:=by kernel_rfl
 cellsByte:=by kernel_rfl
 sizeByte:=by kernel_rfl
 neB5:=by decide}
open Go.RowKit in
def Tryz.strings_Join(d o c:Nat)(xs:List ByteArray)(b:ByteArray)(w:World)(a:∀(j:Nat) x,xs[j]? =some x->w.cell? ⟨d,o+j,none⟩=some (.string x))(h:d<w.heap.size)(i:xs.length<=140737488355328)(f:xs.length<=c)(g:(Lib.join (xs.map (·.data.toList)) b.data.toList).length<=140737488355328):
 Calls prog 31 #[.slice (some ⟨d,o,none⟩) xs.length c,.string b] w fun e w'=>e=.returned (.string ⟨(Lib.join (xs.map (·.data.toList)) b.data.toList).toArray⟩)/\Below w.heap.size w w':=Any.strings_Join Tryz.lays156 Tryz.Builder_Extra_156 d o c xs b w a h i f g
def Tryz.lays162_ren:Go.Shelf.Ren:=⟨fun|162=>171|232=>218|227=>219|234=>220|236=>221|228=>246|271=>247|151=>248|120=>263|197=>102|152=>264|260=>142|137=>276|119=>277|224=>145|225=>144|217=>143|266=>184|n=>n,fun|9=>9|4=>4|3=>3|5=>5|117=>299|116=>298|0=>0|124=>302|21=>21|105=>201|46=>137|119=>273|139=>276|138=>275|n=>n,fun|3=>6|4=>7|n=>n⟩
def Tryz.lays162:Go.Proofs.Lays.n162 prog Tryz.lays162_ren:=⟨by kernel_rfl,func277.trans (congrArg some (by kernel_rfl)),func263.trans (congrArg some (by kernel_rfl)),func276.trans (congrArg some (by kernel_rfl)),func248.trans (congrArg some (by kernel_rfl)),func264.trans (congrArg some (by kernel_rfl)),func171.trans (congrArg some (by kernel_rfl)),func102.trans (congrArg some (by kernel_rfl)),func143.trans (congrArg some (by kernel_rfl)),func145.trans (congrArg some (by kernel_rfl)),func144.trans (congrArg some (by kernel_rfl)),func219.trans (congrArg some (by kernel_rfl)),func246.trans (congrArg some (by kernel_rfl)),func218.trans (congrArg some (by kernel_rfl)),func220.trans (congrArg some (by kernel_rfl)),func221.trans (congrArg some (by kernel_rfl)),func142.trans (congrArg some (by kernel_rfl)),func184.trans (congrArg some (by kernel_rfl)),func247.trans (congrArg some (by kernel_rfl)),qu0,qi0,qs0,qz0,qu3,qi3,qs3,qz3,qu4,qi4,qs4,qz4,qu5,qi5,qs5,qz5,qu9,qi9,qs9,qz9,qu21,isAgg21,sizeOf21,qz21,qu137,isAgg137,qs137,qz137,underlying201,isAgg201,sizeOf201,zeroValue201,underlying298,isAgg298,sizeOf298,underlying299,isAgg299,sizeOf299,zeroValue299,underlying273,isAgg273,sizeOf273,underlying302,isAgg302,sizeOf302,zeroValue302,underlying275,isAgg275,sizeOf275,zeroValue275,underlying276,isAgg276,sizeOf276,zeroValue276,by kernel_rfl,by kernel_rfl⟩
open Go.RowKit in
def Tryz.strings_TrimRight_one(s:ByteArray)(c:UInt8)(a:c.toNat<128)(w:World)(b:s.size<=9223372036854775807):
 Calls prog 171 #[.string s,.string ⟨#[c]⟩] w fun e w'=>e=.returned (.string ⟨(Lib.trimRightB s.data.toList c).toArray⟩)/\w'=w:=Any.strings_TrimRight_one Tryz.lays162 s c a w b
def Tryz.laysM171_ren:Go.Shelf.Ren:=⟨fun|171=>128|243=>172|246=>222|283=>249|284=>250|285=>251|286=>252|129=>266|317=>265|318=>267|319=>268|320=>269|337=>278|338=>279|n=>n,fun|3=>3|9=>9|2=>2|4=>4|171=>323|0=>0|53=>195|37=>24|5=>5|173=>326|212=>336|51=>192|20=>20|213=>337|46=>137|232=>354|233=>355|n=>n,fun|17=>8|18=>12|19=>13|n=>n⟩
def Tryz.laysM171:Go.Proofs.LaysM.n171 prog Tryz.laysM171_ren:={
 mixed:=by kernel_rfl
 f129:=func266.trans (congrArg some (by kernel_rfl))
 f171:=func128.trans (congrArg some (by kernel_rfl))
 f243:=func172.trans (congrArg some (by kernel_rfl))
 f246:=func222.trans (congrArg some (by kernel_rfl))
 f283:=func249.trans (congrArg some (by kernel_rfl))
 f284:=func250.trans (congrArg some (by kernel_rfl))
 f285:=func251.trans (congrArg some (by kernel_rfl))
 f286:=func252.trans (congrArg some (by kernel_rfl))
 f317:=func265.trans (congrArg some (by kernel_rfl))
 f318:=func267.trans (congrArg some (by kernel_rfl))
 f319:=func268.trans (congrArg some (by kernel_rfl))
 f320:=func269.trans (congrArg some (by kernel_rfl))
 f337:=func278.trans (congrArg some (by kernel_rfl))
 f338:=func279.trans (congrArg some (by kernel_rfl))
 t0:=qu0
 a0:=qi0
 z0:=qs0
 v0:=qz0
 t2:=underlying2
 a2:=isAgg2
 z2:=sizeOf2
 v2:=zeroValue2
 t3:=qu3
 a3:=qi3
 z3:=qs3
 v3:=qz3
 t4:=qu4
 a4:=qi4
 z4:=qs4
 v4:=qz4
 t5:=qu5
 a5:=qi5
 z5:=qs5
 v5:=qz5
 t9:=qu9
 a9:=qi9
 z9:=qs9
 v9:=qz9
 t20:=qu20
 a20:=isAgg20
 z20:=sizeOf20
 v20:=qz20
 t37:=qu24
 a37:=isAgg24
 z37:=sizeOf24
 v37:=qz24
 t46:=qu137
 a46:=isAgg137
 z46:=qs137
 v46:=qz137
 t51:=qu192
 a51:=isAgg192
 z51:=sizeOf192
 v51:=qz192
 t53:=underlying195
 a53:=isAgg195
 z53:=sizeOf195
 v53:=zeroValue195
 t171:=underlying323
 a171:=isAgg323
 z171:=sizeOf323
 v171:=zeroValue323
 t173:=underlying326
 a173:=isAgg326
 z173:=sizeOf326
 v173:=zeroValue326
 t212:=underlying336
 a212:=isAgg336
 z212:=sizeOf336
 v212:=zeroValue336
 t213:=underlying337
 a213:=isAgg337
 z213:=sizeOf337
 t232:=underlying354
 a232:=isAgg354
 z232:=sizeOf354
 v232:=zeroValue354
 t233:=underlying355
 a233:=isAgg355
 z233:=sizeOf355
 v233:=zeroValue355
 g17:=by kernel_rfl
 g18:=by kernel_rfl
 g19:=by kernel_rfl
 i0:=by kernel_rfl
 i2:=by kernel_rfl
 i3:=by kernel_rfl
 i4:=by kernel_rfl
 i5:=by kernel_rfl
 i9:=by kernel_rfl
 i20:=by kernel_rfl
 i37:=by kernel_rfl
 i46:=by kernel_rfl
 i51:=by kernel_rfl
 i53:=by kernel_rfl
 i171:=by kernel_rfl
 i173:=by kernel_rfl
 i212:=by kernel_rfl
 i232:=by kernel_rfl
 i233:=by kernel_rfl
 m17:=by kernel_rfl
 m18:=by kernel_rfl
 m19:=by kernel_rfl}
open Go.RowKit Go.Sort Go.Lib in
def Tryz.strconv_Itoa(n:Int)(h0: -9223372036854775808<=n)(h1:n<=9223372036854775807)(w:World)(a:Lib.TabIs prog w "internal/strconv.uint64pow10" .u64 Lib.pow10Tab):
 Calls prog 128 #[.int .i64 n] w fun e w'=>e=.returned (.string ⟨(Lib.itoa n).toArray⟩)/\ ∃k os,w'=grow (w.drewN k) os:=Any.strconv_Itoa Tryz.laysM171 n h0 h1 w a
def Tryz.laysC172_ren:Go.Shelf.Ren:=⟨fun|172=>226|244=>254|245=>255|247=>270|279=>271|280=>272|281=>273|282=>274|287=>280|316=>281|171=>128|205=>282|321=>284|322=>285|243=>172|246=>222|283=>249|284=>250|285=>251|286=>252|129=>266|317=>265|318=>267|319=>268|320=>269|337=>278|338=>279|n=>n,fun|9=>9|3=>3|75=>88|76=>141|4=>4|5=>5|167=>339|37=>24|0=>0|85=>340|2=>2|168=>342|53=>195|175=>347|46=>137|210=>350|127=>146|145=>359|143=>357|21=>21|171=>323|173=>326|212=>336|51=>192|20=>20|213=>337|232=>354|233=>355|80=>94|n=>n,fun|15=>9|16=>10|17=>8|18=>12|19=>13|n=>n⟩
def Tryz.laysC172:Go.Proofs.LaysC.n172 prog Tryz.laysC172_ren:={
 mixed:=by kernel_rfl
 f129:=func266.trans (congrArg some (by kernel_rfl))
 f171:=func128.trans (congrArg some (by kernel_rfl))
 f172:=func226.trans (congrArg some (by kernel_rfl))
 f205:=func282.trans (congrArg some (by kernel_rfl))
 f243:=func172.trans (congrArg some (by kernel_rfl))
 f244:=func254.trans (congrArg some (by kernel_rfl))
 f245:=func255.trans (congrArg some (by kernel_rfl))
 f246:=func222.trans (congrArg some (by kernel_rfl))
 f247:=func270.trans (congrArg some (by kernel_rfl))
 f279:=func271.trans (congrArg some (by kernel_rfl))
 f280:=func272.trans (congrArg some (by kernel_rfl))
 f281:=func273.trans (congrArg some (by kernel_rfl))
 f282:=func274.trans (congrArg some (by kernel_rfl))
 f283:=func249.trans (congrArg some (by kernel_rfl))
 f284:=func250.trans (congrArg some (by kernel_rfl))
 f285:=func251.trans (congrArg some (by kernel_rfl))
 f286:=func252.trans (congrArg some (by kernel_rfl))
 f287:=func280.trans (congrArg some (by kernel_rfl))
 f316:=func281.trans (congrArg some (by kernel_rfl))
 f317:=func265.trans (congrArg some (by kernel_rfl))
 f318:=func267.trans (congrArg some (by kernel_rfl))
 f319:=func268.trans (congrArg some (by kernel_rfl))
 f320:=func269.trans (congrArg some (by kernel_rfl))
 f321:=func284.trans (congrArg some (by kernel_rfl))
 f322:=func285.trans (congrArg some (by kernel_rfl))
 f337:=func278.trans (congrArg some (by kernel_rfl))
 f338:=func279.trans (congrArg some (by kernel_rfl))
 t0:=qu0
 a0:=qi0
 z0:=qs0
 v0:=qz0
 t2:=underlying2
 a2:=isAgg2
 z2:=sizeOf2
 v2:=zeroValue2
 t3:=qu3
 a3:=qi3
 z3:=qs3
 v3:=qz3
 t4:=qu4
 a4:=qi4
 z4:=qs4
 v4:=qz4
 t5:=qu5
 a5:=qi5
 z5:=qs5
 v5:=qz5
 t9:=qu9
 a9:=qi9
 z9:=qs9
 v9:=qz9
 t20:=qu20
 a20:=isAgg20
 z20:=sizeOf20
 v20:=qz20
 t21:=qu21
 a21:=isAgg21
 z21:=sizeOf21
 v21:=qz21
 t37:=qu24
 a37:=isAgg24
 z37:=sizeOf24
 v37:=qz24
 t46:=qu137
 a46:=isAgg137
 z46:=qs137
 v46:=qz137
 t51:=qu192
 a51:=isAgg192
 z51:=sizeOf192
 v51:=qz192
 t53:=underlying195
 a53:=isAgg195
 z53:=sizeOf195
 v53:=zeroValue195
 t75:=qu88
 a75:=isAgg88
 z75:=sizeOf88
 v75:=qz88
 t76:=qu141
 a76:=isAgg141
 z76:=sizeOf141
 v76:=qz141
 t85:=underlying340
 a85:=isAgg340
 z85:=sizeOf340
 v85:=zeroValue340
 t127:=qu146
 a127:=isAgg146
 z127:=sizeOf146
 v127:=qz146
 t143:=underlying357
 a143:=isAgg357
 z143:=sizeOf357
 v143:=zeroValue357
 t145:=underlying359
 a145:=isAgg359
 z145:=sizeOf359
 v145:=zeroValue359
 t167:=underlying339
 a167:=isAgg339
 z167:=sizeOf339
 v167:=zeroValue339
 t168:=underlying342
 a168:=isAgg342
 z168:=sizeOf342
 v168:=zeroValue342
 t171:=underlying323
 a171:=isAgg323
 z171:=sizeOf323
 v171:=zeroValue323
 t173:=underlying326
 a173:=isAgg326
 z173:=sizeOf326
 v173:=zeroValue326
 t175:=underlying347
 a175:=isAgg347
 z175:=sizeOf347
 v175:=zeroValue347
 t210:=underlying350
 a210:=isAgg350
 z210:=sizeOf350
 v210:=zeroValue350
 t212:=underlying336
 a212:=isAgg336
 z212:=sizeOf336
 v212:=zeroValue336
 t213:=underlying337
 a213:=isAgg337
 z213:=sizeOf337
 t232:=underlying354
 a232:=isAgg354
 z232:=sizeOf354
 v232:=zeroValue354
 t233:=underlying355
 a233:=isAgg355
 z233:=sizeOf355
 v233:=zeroValue355
 g15:=by kernel_rfl
 g16:=by kernel_rfl
 g17:=by kernel_rfl
 g18:=by kernel_rfl
 g19:=by kernel_rfl
 t80:=underlying94
 a80:=isAgg94
 z80:=sizeOf94
 v80:=zeroValue94
 i0:=by kernel_rfl
 i2:=by kernel_rfl
 i3:=by kernel_rfl
 i4:=by kernel_rfl
 i5:=by kernel_rfl
 i9:=by kernel_rfl
 i20:=by kernel_rfl
 i21:=by kernel_rfl
 i37:=by kernel_rfl
 i46:=by kernel_rfl
 i51:=by kernel_rfl
 i53:=by kernel_rfl
 i75:=by kernel_rfl
 i76:=by kernel_rfl
 i80:=by kernel_rfl
 i85:=by kernel_rfl
 i127:=by kernel_rfl
 i143:=by kernel_rfl
 i145:=by kernel_rfl
 i167:=by kernel_rfl
 i168:=by kernel_rfl
 i171:=by kernel_rfl
 i173:=by kernel_rfl
 i175:=by kernel_rfl
 i210:=by kernel_rfl
 i212:=by kernel_rfl
 i232:=by kernel_rfl
 i233:=by kernel_rfl
 m15:=by kernel_rfl
 m16:=by kernel_rfl
 m17:=by kernel_rfl
 m18:=by kernel_rfl
 m19:=by kernel_rfl
 c0:=by kernel_rfl
 c2:=by kernel_rfl
 c3:=by kernel_rfl
 c4:=by kernel_rfl
 c5:=by kernel_rfl
 c9:=by kernel_rfl
 c20:=by kernel_rfl
 c21:=by kernel_rfl
 c37:=by kernel_rfl
 c46:=by kernel_rfl
 c51:=by kernel_rfl
 c53:=by kernel_rfl
 c75:=by kernel_rfl
 c76:=by kernel_rfl
 c80:=by kernel_rfl
 c85:=by kernel_rfl
 c127:=by kernel_rfl
 c143:=by kernel_rfl
 c145:=by kernel_rfl
 c167:=by kernel_rfl
 c168:=by kernel_rfl
 c171:=by kernel_rfl
 c173:=by kernel_rfl
 c175:=by kernel_rfl
 c210:=by kernel_rfl
 c212:=by kernel_rfl
 c213:=by kernel_rfl
 c232:=by kernel_rfl
 c233:=by kernel_rfl}
open Go.RowKit in
def Tryz.strconv_Atoi_ok(s:ByteArray)(a:s.size<=9223372036854775806)(v:Int)(h:Lib.atoiAll s.data.toList=.ok v)(w:World):
 Calls prog 226 #[.string s] w fun e w'=>e=.returned (.tuple #[.int .i64 v,.nilIface])/\(w'=w\/ ∃t,w'=Lib.bytesWorld w 5 t):=Any.strconv_Atoi_ok Tryz.laysC172 s a v h w
open Go.RowKit in
def Tryz.strconv_Atoi_range_var(s:ByteArray)(a:s.size<=281474976710656)(h:Lib.atoiAll s.data.toList=.range)(c:TypeId)(p:Value)(w:World)(b:w.var? prog "strconv.ErrRange" =some #[.iface c p]):
 Calls prog 226 #[.string s] w fun e w'=>∃N,e=.returned (.tuple #[.int .i64 (Lib.atoiSat s.data.toList),.iface 342 (.pointer (some ⟨N,0,none⟩))])/\w.heap.size<=N/\w'.heap[N]? =some (.cells #[.string ⟨#[65,116,111,105]⟩,.string s,.iface c p] 350 (0,0))/\Below w.heap.size w w':=Any.strconv_Atoi_range_var Tryz.laysC172 s a h c p w b
def Tryz.lays138_ren:Go.Shelf.Ren:=⟨fun|138=>53|195=>93|218=>94|143=>67|219=>103|217=>143|225=>144|224=>145|267=>146|266=>184|314=>185|n=>n,fun|9=>9|3=>3|4=>4|5=>5|0=>0|46=>137|146=>193|51=>192|n=>n,fun|1=>5|n=>n⟩
def Tryz.lays138:Go.Proofs.Lays.n138 prog Tryz.lays138_ren:=⟨by kernel_rfl,func53.trans (congrArg some (by kernel_rfl)),func67.trans (congrArg some (by kernel_rfl)),func93.trans (congrArg some (by kernel_rfl)),func143.trans (congrArg some (by kernel_rfl)),func94.trans (congrArg some (by kernel_rfl)),func103.trans (congrArg some (by kernel_rfl)),func145.trans (congrArg some (by kernel_rfl)),func144.trans (congrArg some (by kernel_rfl)),func184.trans (congrArg some (by kernel_rfl)),func146.trans (congrArg some (by kernel_rfl)),func185.trans (congrArg some (by kernel_rfl)),qu0,qi0,qs0,qz0,qu3,qi3,qs3,qz3,qu4,qi4,qs4,qz4,qu5,qi5,qs5,qz5,qu9,qi9,qs9,qz9,qu137,isAgg137,qs137,qz137,qu192,isAgg192,sizeOf192,qz192,qu193,isAgg193,sizeOf193,qz193,by kernel_rfl⟩
open Go.RowKit Go.Lib in
def Tryz.strings_Count_one(s:ByteArray)(c:UInt8)(w:World):
 Calls prog 53 #[.string s,.string ⟨#[c]⟩] w fun e w'=>e=.returned (.int .i64 (Lib.countByte s.data.toList c))/\w'=w:=Any.strings_Count_one Tryz.lays138 s c w
def Tryz.lays101_ren:Go.Shelf.Ren:=⟨fun|101=>169|208=>217|206=>97|n=>n,fun|9=>9|4=>4|3=>3|n=>n,fun|n=>n⟩
def Tryz.lays101:Go.Proofs.Lays.n101 prog Tryz.lays101_ren:=⟨by kernel_rfl,func169.trans (congrArg some (by kernel_rfl)),func97.trans (congrArg some (by kernel_rfl)),func217.trans (congrArg some (by kernel_rfl)),qu3,qi3,qs3,qz3,qu4,qi4,qs4,qz4,qu9,qi9,qs9,qz9⟩
open Go.RowKit Go.Lib in
def Tryz.strings_TrimPrefix(s p:ByteArray)(w:World):
 Calls prog 169 #[.string s,.string p] w fun e w'=>e=.returned (.string ⟨(Lib.trimPrefix s.data.toList p.data.toList).toArray⟩)/\w'=w:=Any.strings_TrimPrefix Tryz.lays101 s p w
def Tryz.lays102_ren:Go.Shelf.Ren:=⟨fun|102=>28|209=>64|207=>101|n=>n,fun|9=>9|4=>4|3=>3|n=>n,fun|n=>n⟩
def Tryz.lays102:Go.Proofs.Lays.n102 prog Tryz.lays102_ren:=⟨by kernel_rfl,func28.trans (congrArg some (by kernel_rfl)),func101.trans (congrArg some (by kernel_rfl)),func64.trans (congrArg some (by kernel_rfl)),qu3,qi3,qs3,qz3,qu4,qi4,qs4,qz4,qu9,qi9,qs9,qz9⟩
open Go.RowKit Go.Lib in
def Tryz.strings_TrimSuffix(s p:ByteArray)(w:World)(a:s.size<=9223372036854775807):
 Calls prog 28 #[.string s,.string p] w fun e w'=>e=.returned (.string ⟨(Lib.trimSuffix s.data.toList p.data.toList).toArray⟩)/\w'=w:=Any.strings_TrimSuffix Tryz.lays102 s p w a
def Tryz.lays146_ren:Go.Shelf.Ren:=⟨fun|146=>27|221=>63|268=>100|138=>53|143=>67|195=>93|197=>102|218=>94|219=>103|260=>142|217=>143|225=>144|224=>145|267=>146|266=>184|314=>185|n=>n,fun|9=>9|31=>52|3=>3|4=>4|0=>0|105=>201|21=>21|5=>5|46=>137|119=>273|139=>276|138=>275|146=>193|51=>192|n=>n,fun|1=>5|3=>6|4=>7|n=>n⟩
def Tryz.lays146:Go.Proofs.Lays.n146 prog Tryz.lays146_ren:=⟨by kernel_rfl,func53.trans (congrArg some (by kernel_rfl)),func67.trans (congrArg some (by kernel_rfl)),func27.trans (congrArg some (by kernel_rfl)),func93.trans (congrArg some (by kernel_rfl)),func102.trans (congrArg some (by kernel_rfl)),func143.trans (congrArg some (by kernel_rfl)),func94.trans (congrArg some (by kernel_rfl)),func103.trans (congrArg some (by kernel_rfl)),func63.trans (congrArg some (by kernel_rfl)),func145.trans (congrArg some (by kernel_rfl)),func144.trans (congrArg some (by kernel_rfl)),func142.trans (congrArg some (by kernel_rfl)),func184.trans (congrArg some (by kernel_rfl)),func146.trans (congrArg some (by kernel_rfl)),func100.trans (congrArg some (by kernel_rfl)),func185.trans (congrArg some (by kernel_rfl)),qu0,qi0,qs0,qz0,qu3,qi3,qs3,qz3,qu4,qi4,qs4,qz4,qu5,qi5,qs5,qz5,qu9,qi9,qs9,qz9,qu21,isAgg21,sizeOf21,qz21,underlying52,isAgg52,sizeOf52,zeroValue52,qu137,isAgg137,qs137,qz137,qu192,isAgg192,sizeOf192,qz192,underlying201,isAgg201,sizeOf201,zeroValue201,underlying273,isAgg273,sizeOf273,underlying275,isAgg275,sizeOf275,zeroValue275,underlying276,isAgg276,sizeOf276,zeroValue276,qu193,isAgg193,sizeOf193,qz193,by kernel_rfl,by kernel_rfl,by kernel_rfl⟩
open Go.RowKit Go.Lib in
def Tryz.strings_Split(s a:ByteArray)(m:Int)(w:World)(c:s.size<4294967281)(b:w.cell? ⟨5,0,none⟩=some (.int .i64 m))(h1:1<=a.size):
 Calls prog 27 #[.string s,.string a] w fun e w'=>
  e=.returned (.slice (some ⟨w.heap.size,0,none⟩) (Lib.countB s a+1) (Lib.countB s a+1))/\w'=w.alloc (.cells ((Lib.splitB a 0 (Lib.countB s a) s).map Value.string).toArray 9):=Any.strings_Split Tryz.lays146 (by kernel_rfl) s a m w c b h1
def Tryz.lays154_ren:Go.Shelf.Ren:=⟨fun|154=>65|138=>53|165=>59|143=>67|166=>60|197=>102|169=>30|195=>93|218=>94|240=>62|241=>98|219=>103|260=>142|276=>99|277=>141|217=>143|225=>144|224=>145|267=>146|266=>184|314=>185|n=>n,fun|9=>9|3=>3|4=>4|72=>86|0=>0|76=>141|105=>201|21=>21|5=>5|70=>84|20=>20|37=>24|75=>88|127=>146|164=>198|46=>137|119=>273|139=>276|138=>275|146=>193|51=>192|80=>94|n=>n,fun|1=>5|3=>6|4=>7|n=>n⟩
def Tryz.lays154:Go.Proofs.Lays.n154 prog Tryz.lays154_ren:=⟨by kernel_rfl,func53.trans (congrArg some (by kernel_rfl)),func67.trans (congrArg some (by kernel_rfl)),func65.trans (congrArg some (by kernel_rfl)),func59.trans (congrArg some (by kernel_rfl)),func60.trans (congrArg some (by kernel_rfl)),func30.trans (congrArg some (by kernel_rfl)),func93.trans (congrArg some (by kernel_rfl)),func102.trans (congrArg some (by kernel_rfl)),func143.trans (congrArg some (by kernel_rfl)),func94.trans (congrArg some (by kernel_rfl)),func103.trans (congrArg some (by kernel_rfl)),func145.trans (congrArg some (by kernel_rfl)),func144.trans (congrArg some (by kernel_rfl)),func62.trans (congrArg some (by kernel_rfl)),func98.trans (congrArg some (by kernel_rfl)),func142.trans (congrArg some (by kernel_rfl)),func184.trans (congrArg some (by kernel_rfl)),func146.trans (congrArg some (by kernel_rfl)),func99.trans (congrArg some (by kernel_rfl)),func141.trans (congrArg some (by kernel_rfl)),func185.trans (congrArg some (by kernel_rfl)),qu0,qi0,qs0,qz0,qu3,qi3,qs3,qz3,qu4,qi4,qs4,qz4,qu5,qi5,qs5,qz5,qu9,qi9,qs9,qz9,qu20,isAgg20,sizeOf20,qz20,qu21,isAgg21,sizeOf21,qz21,qu24,isAgg24,sizeOf24,qz24,qu137,isAgg137,qs137,qz137,qu192,isAgg192,sizeOf192,qz192,qu84,isAgg84,sizeOf84,qz84,qu86,isAgg86,sizeOf86,qz86,qu88,isAgg88,sizeOf88,qz88,qu141,isAgg141,sizeOf141,qz141,underlying201,isAgg201,sizeOf201,zeroValue201,underlying273,isAgg273,sizeOf273,qu146,isAgg146,sizeOf146,qz146,underlying275,isAgg275,sizeOf275,zeroValue275,underlying276,isAgg276,sizeOf276,zeroValue276,qu193,isAgg193,sizeOf193,qz193,underlying198,isAgg198,sizeOf198,zeroValue198,by kernel_rfl,by kernel_rfl,by kernel_rfl⟩
def Tryz.Builder_Extra_154:Builder.Extra prog Tryz.lays154_ren:={
 sizeBuilder:=by kernel_rfl
 liesBuilder:=by kernel_rfl
 t5:=qu5
 a5:=qi5
 z5:=qs5
 v5:=qz5
 infoByte:=by kernel_rfl
 cellsByte:=by kernel_rfl
 sizeByte:=by kernel_rfl
 neB5:=by decide}
open Go.RowKit Go.Lib in
def Tryz.strings_Replace(s a b:ByteArray)(n:Int)(m:Int)(w:World)(f:s.size<4294967281)(d:w.cell? ⟨5,0,none⟩=some (.int .i64 m))(h1:1<=a.size)(c:s.size+Lib.countB s a*b.size<=140737488355328):
 Calls prog 65 #[.string s,.string a,.string b,.int .i64 n] w fun e w'=>
  e=.returned (.string ⟨(Lib.replace s.data.toList a.data.toList b.data.toList n).toArray⟩)/\Below w.heap.size w w':=Any.strings_Replace Tryz.lays154 Tryz.Builder_Extra_154 s a b n m w f d h1 c
def Tryz.lays155_ren:Go.Shelf.Ren:=⟨fun|155=>29|154=>65|138=>53|165=>59|143=>67|166=>60|197=>102|169=>30|195=>93|218=>94|240=>62|241=>98|219=>103|260=>142|276=>99|277=>141|217=>143|225=>144|224=>145|267=>146|266=>184|314=>185|n=>n,fun|9=>9|3=>3|4=>4|72=>86|0=>0|76=>141|105=>201|21=>21|5=>5|70=>84|20=>20|37=>24|75=>88|127=>146|164=>198|46=>137|119=>273|139=>276|138=>275|146=>193|51=>192|80=>94|n=>n,fun|1=>5|3=>6|4=>7|n=>n⟩
def Tryz.lays155:Go.Proofs.Lays.n155 prog Tryz.lays155_ren:=⟨by kernel_rfl,func53.trans (congrArg some (by kernel_rfl)),func67.trans (congrArg some (by kernel_rfl)),func65.trans (congrArg some (by kernel_rfl)),func29.trans (congrArg some (by kernel_rfl)),func59.trans (congrArg some (by kernel_rfl)),func60.trans (congrArg some (by kernel_rfl)),func30.trans (congrArg some (by kernel_rfl)),func93.trans (congrArg some (by kernel_rfl)),func102.trans (congrArg some (by kernel_rfl)),func143.trans (congrArg some (by kernel_rfl)),func94.trans (congrArg some (by kernel_rfl)),func103.trans (congrArg some (by kernel_rfl)),func145.trans (congrArg some (by kernel_rfl)),func144.trans (congrArg some (by kernel_rfl)),func62.trans (congrArg some (by kernel_rfl)),func98.trans (congrArg some (by kernel_rfl)),func142.trans (congrArg some (by kernel_rfl)),func184.trans (congrArg some (by kernel_rfl)),func146.trans (congrArg some (by kernel_rfl)),func99.trans (congrArg some (by kernel_rfl)),func141.trans (congrArg some (by kernel_rfl)),func185.trans (congrArg some (by kernel_rfl)),qu0,qi0,qs0,qz0,qu3,qi3,qs3,qz3,qu4,qi4,qs4,qz4,qu5,qi5,qs5,qz5,qu9,qi9,qs9,qz9,qu20,isAgg20,sizeOf20,qz20,qu21,isAgg21,sizeOf21,qz21,qu24,isAgg24,sizeOf24,qz24,qu137,isAgg137,qs137,qz137,qu192,isAgg192,sizeOf192,qz192,qu84,isAgg84,sizeOf84,qz84,qu86,isAgg86,sizeOf86,qz86,qu88,isAgg88,sizeOf88,qz88,qu141,isAgg141,sizeOf141,qz141,underlying201,isAgg201,sizeOf201,zeroValue201,underlying273,isAgg273,sizeOf273,qu146,isAgg146,sizeOf146,qz146,underlying275,isAgg275,sizeOf275,zeroValue275,underlying276,isAgg276,sizeOf276,zeroValue276,qu193,isAgg193,sizeOf193,qz193,underlying198,isAgg198,sizeOf198,zeroValue198,by kernel_rfl,by kernel_rfl,by kernel_rfl⟩
def Tryz.Builder_Extra_155:Builder.Extra prog Tryz.lays155_ren:={
 sizeBuilder:=by kernel_rfl
 liesBuilder:=by kernel_rfl
 t5:=qu5
 a5:=qi5
 z5:=qs5
 v5:=qz5
 infoByte:=by kernel_rfl
 cellsByte:=by kernel_rfl
 sizeByte:=by kernel_rfl
 neB5:=by decide}
open Go.RowKit Go.Lib in
def Tryz.strings_ReplaceAll(s a b:ByteArray)(m:Int)(w:World)(f:s.size<4294967281)(d:w.cell? ⟨5,0,none⟩=some (.int .i64 m))(h1:1<=a.size)(c:s.size+Lib.countB s a*b.size<=140737488355328):
 Calls prog 29 #[.string s,.string a,.string b] w fun e w'=>
  e=.returned (.string ⟨(Lib.replaceAll s.data.toList a.data.toList b.data.toList).toArray⟩)/\Below w.heap.size w w':=Any.strings_ReplaceAll Tryz.lays155 Tryz.Builder_Extra_155 s a b m w f d h1 c
def Tryz.lays105_ren:Go.Shelf.Ren:=⟨fun|105=>25|212=>57|99=>58|165=>59|166=>60|170=>61|169=>30|263=>95|264=>96|206=>97|240=>62|241=>98|276=>99|277=>141|n=>n,fun|9=>9|3=>3|4=>4|20=>20|0=>0|46=>137|109=>138|5=>5|72=>86|76=>141|51=>192|146=>193|53=>195|148=>196|70=>84|37=>24|75=>88|127=>146|164=>198|80=>94|n=>n,fun|n=>n⟩
def Tryz.lays105:Go.Proofs.Lays.n105 prog Tryz.lays105_ren:=⟨by kernel_rfl,func58.trans (congrArg some (by kernel_rfl)),func25.trans (congrArg some (by kernel_rfl)),func59.trans (congrArg some (by kernel_rfl)),func60.trans (congrArg some (by kernel_rfl)),func30.trans (congrArg some (by kernel_rfl)),func61.trans (congrArg some (by kernel_rfl)),func97.trans (congrArg some (by kernel_rfl)),func57.trans (congrArg some (by kernel_rfl)),func62.trans (congrArg some (by kernel_rfl)),func98.trans (congrArg some (by kernel_rfl)),func95.trans (congrArg some (by kernel_rfl)),func96.trans (congrArg some (by kernel_rfl)),func99.trans (congrArg some (by kernel_rfl)),func141.trans (congrArg some (by kernel_rfl)),qu0,qi0,qs0,qz0,qu3,qi3,qs3,qz3,qu4,qi4,qs4,qz4,qu5,qi5,qs5,qz5,qu9,qi9,qs9,qz9,qu20,isAgg20,sizeOf20,qz20,qu24,isAgg24,sizeOf24,qz24,qu137,isAgg137,qs137,qz137,qu192,isAgg192,sizeOf192,qz192,underlying195,isAgg195,sizeOf195,zeroValue195,qu84,isAgg84,sizeOf84,qz84,qu86,isAgg86,sizeOf86,qz86,qu88,isAgg88,sizeOf88,qz88,qu141,isAgg141,sizeOf141,qz141,underlying138,isAgg138,sizeOf138,zeroValue138,qu146,isAgg146,sizeOf146,qz146,qu193,isAgg193,sizeOf193,qz193,underlying196,isAgg196,sizeOf196,zeroValue196,underlying198,isAgg198,sizeOf198,zeroValue198⟩
def Tryz.Builder_Extra_105:Builder.Extra prog Tryz.lays105_ren:={
 sizeBuilder:=by kernel_rfl
 liesBuilder:=by kernel_rfl
 t5:=qu5
 a5:=qi5
 z5:=qs5
 v5:=qz5
 infoByte:=by kernel_rfl
 cellsByte:=by kernel_rfl
 sizeByte:=by kernel_rfl
 neB5:=by decide}
open Go.RowKit Go.Lib in
def Tryz.strings_Repeat(s:ByteArray)(c:Nat)(w:World)(b:c<=9223372036854775807)(a:s.size*c<=140737488355328):
 Calls prog 25 #[.string s,.int .i64 c] w fun e w'=>e=.returned (.string ⟨(Lib.repeatL s.data.toList c).toArray⟩)/\Below w.heap.size w w':=Any.strings_Repeat Tryz.lays105 Tryz.Builder_Extra_105 s c w b a
def Tryz.lays229_ren:Go.Shelf.Ren:=⟨fun|229=>88|n=>n,fun|9=>9|40=>186|31=>52|152=>230|3=>3|0=>0|4=>4|21=>21|154=>232|n=>n,fun|n=>n⟩
def Tryz.lays229:Go.Proofs.Lays.n229 prog Tryz.lays229_ren:=⟨by kernel_rfl,func88.trans (congrArg some (by kernel_rfl)),qu0,qi0,qs0,qz0,qu3,qi3,qs3,qz3,qu4,qi4,qs4,qz4,qu9,qi9,qs9,qz9,qu21,isAgg21,sizeOf21,qz21,underlying52,isAgg52,sizeOf52,zeroValue52,underlying186,isAgg186,sizeOf186,zeroValue186,underlying230,isAgg230,sizeOf230,zeroValue230,underlying232,isAgg232,sizeOf232,zeroValue232⟩
open Go.RowKit Go.Lib in
def Tryz.strings_FieldsFunc_grows(g:Nat)(a:Array Value)(b:∀args w,(callFunc g args).run prog w=.ok (.enter g args) w)(p:Nat->Bool)(s:ByteArray)(w:World)(d:s.size<=4294967296)(c:PredGrows prog g a p w):
 Calls prog 88 #[.string s,.func (.func g) #[] a] w fun e w'=>∃A,e=.returned (.slice (some ⟨A,0,none⟩) (Lib.goFieldsP p s).length (Lib.goFieldsP p s).length)/\w.heap.size<=A/\
  w'.ownsRow w.heap.size 9 1 (.slice (some ⟨A,0,none⟩) (Lib.goFieldsP p s).length (Lib.goFieldsP p s).length) (Lib.goFieldsP p s).length ((Lib.goFieldsP p s).map Value.string)/\Below w.heap.size w w':=Any.strings_FieldsFunc_grows Tryz.lays229 g a b p s w d c (by kernel_rfl) (by kernel_rfl)
end
def te:∀(d r:Nat),r<10^d->(jf d r).getLast?≠some 48
 |0,_,_=>by simp[jf]
 |d+1,r,h=>by
  have a:0<10^d:=cy (by omega)
  have k:r/10^d<10:=by rw[cK a];rw[bM]at h;omega
  have f:=te d (r%10^d) (cx _ a);rw[jf];by_cases b:r=0
  .rw[aq b];simp
  .rw[aj b]
   cases e:jf d (r%10^d)with
   |nil=>
    have j:=(nL (cx r a)).1 e
    have i:r/10^d≠0:=by
     intro l;have:=dc r (10^d);rw[l,j,eV]at this;exact b this.symm
    rw[List.getLast?_singleton];intro g;exact vv (bq i) k (aE g)
   |cons c m=>
    rw[gh];rw[e]at f;exact f
def Bg{w r}(h:w.all ma=true)(d:∀b m,r=b::m->ma b=false):(w++r).takeWhile ma=w/\(w++r).dropWhile ma=r:=by
 induction w with
 |nil=>
  cases r with
  |nil=>exact⟨rfl,rfl⟩
  |cons b m=>rw[bD,List.takeWhile_cons,List.dropWhile_cons,d b m rfl];exact⟨rfl,rfl⟩
 |cons c w a=>
  rw[fh,am]at h;have a:=a h.2;rw[bF,List.takeWhile_cons,List.dropWhile_cons,h.1,aq rfl,aq rfl,a.1,a.2];exact⟨rfl,rfl⟩
def MZ{w f}(hw:w.all ma=true)(c:w≠[])(h0:w.length=1\/w.head?≠some 48)(hf:f.all ma=true)(g:f.getLast?≠some 48):we (w++(if f=[]then[]else 46::f))=some f.length:=by
 have d:=Bg (w:=w) (r:=if f=[]then[]else 46::f) hw (by
  intro b m e;by_cases a:f=[]
  .rw[aq a]at e;cases e
  .rw[aj a]at e;cases e;rfl)
 unfold we;simp only[]
 rw[d.1,d.2,aj (by
  intro h
  obtain h|⟨h1,h2⟩:=h
  .exact c h
  .obtain h0|h0:=h0
   .omega
   .exact h0 h2)]
 by_cases a:f=[]
 .subst a;rfl
 .rw[aj a]
  simp only[];rw[aq ⟨trivial,a,hf,g⟩]
def zC(u):(decDigits u).length=1\/(decDigits u).head?≠some 48:=by
 obtain h|h:=cM u
 .subst h;left;rw[nw (by omega)];rfl
 .right
  obtain⟨k,l,h1,h2,e⟩:=Bf h;rw[e];intro a;exact vv h1 h2 (aE a)
def sG(u):decDigits u≠[]:=by
 intro e;have:=ai List.length e;rw[decDigits_length,cI]at this;have:=nDigits_pos u;omega
def uz(u d):oR u d=decDigits (u/10^d)++(if jf d (u%10^d)=[]then[]else 46::jf d (u%10^d)):=by
 have a:=cx u (cy (by omega):0<10^d);unfold oR;congr 1;by_cases h:u%10^d=0
 .rw[aq h,aq ((nL a).2 h)]
 .rw[aj h,aj (fun e=>h ((nL a).1 e))]
def sH{l:List UInt8}(h:∀b∈l,ma b=true):l.all ma=true:=an.2 h
def EG(u d):we (oR u d)=some (jf d (u%10^d)).length:=by
 have a:=cx u (cy (by omega):0<10^d);rw[uz];exact MZ (sH (nn _)) (sG _) (zC _) (sH (oe d _ a)) (te d _ a)
def xT(u d):∃b l,oR u d=b::l/\ma b=true:=by
 unfold oR
 cases e:decDigits (u/10^d)with
 |nil=>exact absurd e (sG _)
 |cons b l=>exact⟨b,_,rfl,nn (u/10^d) b (by rw[e];exact aG)⟩
def rb(n d):oS (iz n d)=(decide (n<0),oR n.natAbs d):=by
 unfold iz;by_cases h:n<0
 .rw[aq h,aP h];rfl
 .rw[aj h,aw h,bD]
  obtain⟨b,l,e,a⟩:=xT n.natAbs d;rw[e];unfold oS;split
  .rename_i t e2
   cases e2;exact absurd rfl (Qz a)
  .rfl
def B6(n d):li (iz n d)=some (jf d (n.natAbs%10^d)).length:=by
 unfold li;rw[aj,rb]
 .exact EG _ _
 .intro e
  have a:=rb n d;rw[e]at a;have h1:true=decide (n<0):=ai Prod.fst a;have h2:[48]=oR n.natAbs d:=ai Prod.snd a;have h:n<0:=bZ h1.symm;have g:0<10^d:=cy (by omega);have f:=cx n.natAbs g;rw[uz]at h2
  have c:n.natAbs/10^d=0/\jf d (n.natAbs%10^d)=[]:=by
   cases e3:decDigits (n.natAbs/10^d)with
   |nil=>exact absurd e3 (sG _)
   |cons b l=>
    rw[e3,bF]at h2
    injection h2 with h3 h4
    have h5:=eY.1 h4.symm;constructor
    .have:=tQ (n.natAbs/10^d)
     rw[e3,<- h3,h5.1,lO,mE]at this;exact this.symm
    .by_cases hf:jf d (n.natAbs%10^d)=[]
     .exact hf
     .rw[aj hf]at h5;cases h5.2
  have h0:=(nL f).1 c.2;have:=dc n.natAbs (10^d);rw[c.1,h0,eV]at this;omega
def rH(l:List Int)(i j v):(l.set i v).getD j 0=if i=j/\i<l.length then v else l.getD j 0:=by
 simp only[ah,cF];by_cases h:i=j
 .subst h
  by_cases h2:i<l.length
  .simp[h2]
  .simp[h2]
 .simp[h]
def P1(xs ys:List Int)(n k:Nat)(a:List Int):Prop:=
 a.length=n+1/\(∀j,0<=a.getD j 0/\a.getD j 0<=1999999998)/\(∀j,k<=j->a.getD j 0<1000000000)/\a.getD n 0=0/\val a=val xs+val (ys.take k)
def P2(v:Int)(n k:Nat)(a:List Int):Prop:=
 a.length=n+1/\(∀j,0<=a.getD j 0/\a.getD j 0<=1999999999)/\(∀j,j<k->a.getD j 0<1000000000)/\(∀j,k<j->a.getD j 0<=1999999998)/\
  (k<n->a.getD n 0=0)/\(k=n->a.getD n 0<=1)/\val a=v
def T1(xs ys:List Int)(i:Nat)(a:List Int):Prop:=
 a.length=xs.length+ys.length/\(∀j,0<=a.getD j 0/\a.getD j 0<1000000000)/\(∀j,i+ys.length<=j->a.getD j 0=0)/\val a=val (xs.take i)*val ys
def T2(xs ys:List Int)(i k:Nat)(a:Int)(b:List Int):Prop:=
 b.length=xs.length+ys.length/\(∀j,0<=b.getD j 0/\b.getD j 0<1000000000)/\(∀j,i+ys.length<=j->b.getD j 0=0)/\0<=a/\a<1000000000/\
  val b+a*1000000000^(i+k)=val (xs.take i)*val ys+xs.getD i 0*val (ys.take k)*1000000000^i
def vj{x y:Int}(c:0<=x/\x<1000000000)(b:0<=y/\y<1000000000):0<=x*y/\x*y<=999999998000000001:=by
 refine⟨eH c.1 b.1,?_⟩;have a:x*y<=999999999*y:=bB (by omega) b.1;omega
def LG(N:Nat)(w:World)(s:Bool)(a:Option Addr)(n c:Nat)(z:Int):Prop:=
 s=decide (z<0)/\SL N w a n c (ip z.natAbs)/\n<=600
def LG.mono{N M w s a n c z}(h:LG N w s a n c z)(b:N<=M):LG M w s a n c z:=⟨h.1,h.2.1.mono b,h.2.2⟩
def LG.go{w w' s a n c z}(h:LG w.heap.size w s a n c z)(b:Below w.heap.size w w'):LG w'.heap.size w' s a n c z:=⟨h.1,h.2.1.go b,h.2.2⟩
def S3(w:World)(z:Int)(e:Ending)(w':World):Prop:=
 ∃s a n c,e=.returned (.tuple #[.agg #[.bool s,Z a n c],oZ])/\LG w' w' s a n c z/\Below w w w'/\kS w a n
def LG.setCell{N w s a n c z}(h:LG N w s a n c z)(p u)(d:∀b off,a=some ⟨b,off,none⟩->0<n->b≠p.block):LG N (w.setCell p u) s a n c z:=
 ⟨h.1,h.2.1.setCell p u d,h.2.2⟩
def tb(w:World)(z:Int)(e:Ending)(w':World):Prop:=
 ∃s a n c,e=.returned (.agg #[.bool s,Z a n c])/\LG w' w' s a n c z/\Below w w w'/\kS w a n
def xB{k}(h:k<0):k.tmod 1000000000= -((-k)%1000000000):=by
 rw[show k.tmod 1000000000= -((-k).tmod 1000000000)by rw[Int.neg_tmod];omega,bu (by omega)]
def xC{k}(h:k<0):k.tdiv 1000000000= -((-k)/1000000000):=by
 rw[show k.tdiv 1000000000= -((-k).tdiv 1000000000)by rw[Int.neg_tdiv];omega,bL (by omega)]
def iN(w:World)(o p):((w.alloc o).alloc p).heap[w.heap.size]? =some o/\((w.alloc o).alloc p).heap[w.heap.size+1]? =some p:=by
 constructor
 .rw[TJ _ _ _ (by simp)];exact TL _ _
 .have:=TL (w.alloc o) p
  simpa using this
def nu(n)(h1: -9223372036854775808<=n)(h2:n<=9223372036854775807):(ip n.natAbs).length<=3:=
 iB (by simp;omega)
def oF(w:World)(o p q):Below w w (((w.alloc o).alloc p).alloc q):=(((TH _ _).alloc (aa _) _).alloc (by simp) _).alloc (by simp;omega) _
def iH{w:World}(o p):Below w w ((w.alloc o).alloc p):=((TH _ _).alloc (aa _) _).alloc (by simp) _
def oG(x y:Int):Int:=if x<y then -1 else if y<x then 1 else 0
structure LP where
 s:Bool
 a:Option Addr
 n:Nat
 c:Nat
def LP.cells(p:LP):List Value:=[.bool p.s,.slice p.a p.n p.c]
def flat(a:List LP):List Value:=a.flatMap LP.cells
def LP.none:LP:=⟨false,Option.none,0,0⟩
def LP.at(N:Nat)(w:World)(p:LP)(z:Int):Prop:=LG N w p.s p.a p.n p.c z
def LP.above(p:LP)(B:Nat):Prop:=∀b off,p.a=some ⟨b,off,Option.none⟩->0<p.n->B<=b
def LP.off(p:LP)(g:Nat):Prop:=∀b off,p.a=some ⟨b,off,Option.none⟩->0<p.n->b≠g
def TP(a):(flat a).length=a.length*2:=by
 induction a with
 |nil=>rfl
 |cons p a b=>simp only[flat,List.flatMap_cons,al,aH]at b⊢;rw[b];simp[LP.cells];omega
def T6(b j)(h:j<b.length)(p):flat (b.set j p)=((flat b).set (j*2) (.bool p.s)).set (j*2+1) (.slice p.a p.n p.c):=by
 induction b generalizing j with
 |nil=>simp at h
 |cons q b d=>
  cases j with
  |zero=>simp[flat,LP.cells]
  |succ j=>
   have:=d j (by simpa using h);simp only[flat,aW,List.flatMap_cons,LP.cells]at this⊢;rw[this,show(j+1)*2=(j*2)+2 by omega,show(j*2)+2+1=(j*2+1)+2 by omega];simp
def TD(N base:Nat)(w:World)(g cap:Nat)(zs:List Int):Prop:=
 ∃a:List LP,base<=g/\g<N/\w.ownsRow base 221 2 (.slice (J g) zs.length cap) zs.length (flat a)/\a.length=zs.length/\
  ∀j,j<zs.length->LP.at N w (a.getD j LP.none) (zs.getD j 0)/\(a.getD j LP.none).off g/\(a.getD j LP.none).above base
def TD.set{base w g cap zs}(h:TD w.heap.size base w g cap zs){j}(D:j<zs.length){s a n c z}(t:LG w.heap.size w s a n c z)(k:∀b off,a=some ⟨b,off,none⟩->0<n->b≠g)(r:kS base a n):TD ((w.setCell ⟨g,j*2,none⟩ (.bool s)).setCell ⟨g,j*2+1,none⟩ (.slice a n c)).heap.size base ((w.setCell ⟨g,j*2,none⟩ (.bool s)).setCell ⟨g,j*2+1,none⟩ (.slice a n c)) g cap (zs.set j z):=by
 obtain⟨l,h1,h2,h3,q,h5⟩:=h
 have d:∀{p:LP}{y:Int},p.at w.heap.size w y->p.off g->p.at ((w.setCell ⟨g,j*2,none⟩ (.bool s)).setCell ⟨g,j*2+1,none⟩ (.slice a n c)).heap.size ((w.setCell ⟨g,j*2,none⟩ (.bool s)).setCell ⟨g,j*2+1,none⟩ (.slice a n c)) y:=by
  intro p y h1 h2;have:=(LG.setCell h1 ⟨g,j*2,none⟩ (.bool s) h2).setCell ⟨g,j*2+1,none⟩ (.slice a n c) h2;unfold LP.at;simpa using this
 refine⟨l.set j ⟨s,a,n,c⟩,h1,by simpa using h2,?_,by simpa using q,fun i hi=>?_⟩
 .obtain ⟨e,_⟩|⟨o,f,m,e,u,v,x,A,B,C⟩:=h3.2
  .cases e
  .obtain rfl:o=g:=by injection e with e1 e2 e3;injection e1 with e1;injection e1 with e1;exact e1.symm
   obtain rfl:f=cap:=by injection e with e1 e2 e3;exact e3.symm
   have E:=TP l
   have b1:j*2+1<zs.length*2:=by omega
   refine⟨by rw[TP];simp[q],VS ⟨o,f,(m.setIfInBounds (j*2) (.bool s)).setIfInBounds (j*2+1) (.slice a n c),by simp,u,?_,by simpa using x,A,by simpa using B,?_⟩⟩
   .exact gG (gG v (j*2) (.bool s)) (j*2+1) (.slice a n c)
   .rw[T6 l j (by omega),<- C]
    simp only[Array.toList_setIfInBounds,dL];rw[List.take_set,List.take_set]
 .rw[dL]at hi
  simp only[ah,cF];by_cases e:j=i
  .subst e
   rw[aq rfl,aq (by omega),aq rfl,aq (by omega)];exact⟨d (p:=⟨s,a,n,c⟩) t k,k,r⟩
  .rw[aj e,aj e,<- ah,<- ah]
   exact⟨d (h5 i hi).1 (h5 i hi).2.1,(h5 i hi).2⟩
structure TQ (b:Nat) (w w':World):Prop where
 os:w'.os=w.os
 tape:w'.tape=w.tape
 output:w'.output=w.output
 size:w'.heap.size=w.heap.size
 block:∀k,k≠b->w'.heap[k]? =w.heap[k]?
def TQ.refl(b w):TQ b w w:=⟨rfl,rfl,rfl,rfl,fun _ _=>rfl⟩
def TQ.set{b w w'}(h:TQ b w w')(i u):TQ b w (w'.setCell ⟨b,i,none⟩ u):=
 ⟨h.os,h.tape,h.output,by simp[h.size],fun k a=>(TI _ _ _ _ a).trans (h.block k a)⟩
def gA{w:World}{b cs T}(h:w.heap[b]? =some (.cells cs T (0,0)))(i):w.cell? ⟨b,i,none⟩=cs[i]? :=by simp[World.cell?,h]
def gD{w:World}{b cs T}(h:w.heap[b]? =some (.cells cs T (0,0)))(i):w.frozen? ⟨b,i,none⟩=false:=by simp[World.frozen?,h]
structure EH (s:List UInt8) (p:Nat) where
 neg:Bool
 w:List UInt8
 f:List UInt8
 hw:w.all ma=true
 wne:w≠[]
 w0:w.length=1\/w.head?≠some 48
 hf:f.all ma=true
 fl:f.getLast?≠some 48
 fp:f.length=p
 eq:s=(if neg then[45]else[])++(w++(if f=[]then[]else 46::f))
 un:(oS s).1=neg
theorem GS{s p}(h:li s=some p):Nonempty (EH s p):=by
 unfold li at h;split at h
 .cases h
 .obtain⟨w,f,h1,h2,h3,a,h5,b,c⟩:=GR h
  refine⟨⟨(oS s).1,w,f,h1,h2,h3,a,h5,b,?_,rfl⟩⟩;rw[<- c];unfold oS;split<;>rfl
def Dc{s p}(q:EH s p):s.filter ma=q.w++q.f:=by
 have b:ma 46=false:=rfl;have a:ma 45=false:=rfl;refine(ai (List.filter ma) q.eq).trans ?_;rw[dO,dO,sF q.hw]
 have h1:(if q.neg=true then[45]else([]:List UInt8)).filter ma=[]:=by
  split
  .rw[dE,a];rfl
  .rfl
 have h2:(if q.f=[]then([]:List UInt8)else 46::q.f).filter ma=q.f:=by
  split
  .rename_i e;rw[e];rfl
  .rw[dE,b,sF q.hf];rfl
 rw[h1,h2,bD]
section
variable{P:Program}{ops:Array Oper}{Q:Exit->Act->World->Prop}{md:Region.Mode}
def uR(l:Array Bool)(k):(l.setIfInBounds k true).getD k true=true:=by
 rw[eD,Array.getElem?_setIfInBounds,aq rfl];split<;>rfl
def nA:List (Nat×Tmp×Obj)->List (Option Nat)->Act->Act
 |(_,d,_)::fs,some b::os,a=>nA fs os (a.put (some d) (.pointer (J b)))
 |_::fs,none::os,a=>nA fs os a
 |_,_,a=>a
def lV:List (Nat×Tmp×Obj)->List (Option Nat)->Array Bool->Array Bool
 |(k,_,_)::fs,some _::os,l=>lV fs os (l.setIfInBounds k true)
 |_::fs,none::os,l=>lV fs os l
 |_,_,l=>l
def nf(k):∀(fs:List (Nat×Tmp×Obj))(os:List (Option Nat))(l:Array Bool),lV fs os (l.setIfInBounds k true)=(lV fs os l).setIfInBounds k true
 |[],_,_=>by simp[lV]
 |_::_,[],_=>by simp[lV]
 |(k',d,Zq0)::fs,none::os,l=>by simp only[lV];exact nf k fs os l
 |(k',d,Zq0)::fs,some b::os,l=>by
  simp only[lV];by_cases h:k=k'
  .subst h
   rw[<- nf k fs os]
  .rw[cC _ _ h,nf k fs os]
def vP{x v}:∀(fs:List (Nat×Tmp×Obj))(os:List (Option Nat))(a:Act),(∀f∈fs,x≠some f.2.1)->nA fs os (a.put x v)=(nA fs os a).put x v
 |[],_,_,_=>by simp[nA]
 |_::_,[],_,_=>by simp[nA]
 |(k',d,Zq0)::fs,none::os,a,h=>by simp only[nA];exact vP fs os a (fun f hf=>h f (au _ hf))
 |(k',d,Zq0)::fs,some b::os,a,h=>by
  simp only[nA];have:=h _ (aG ..);rw[Act.put_comm a (x:=x) (y:=some d) v _ (fun e c=>by rw[c]at this;exact fun h=>this h.symm),vP fs os _ (fun f hf=>h f (au _ hf))]
def wQ{b}:∀(fs:List (Nat×Tmp×Obj))(os:List (Option Nat))(a:Act)(j:Nat)(f:Nat×Tmp×Obj),fs[j]? =some f->os[j]? =some none->(fs.map fun f=>f.2.1).Nodup->
 nA fs (os.set j (some b)) a=(nA fs os a).put (some f.2.1) (.pointer (J b))
 |[],_,_,_,_,h,_,_=>by simp at h
 |_::_,[],_,_,_,_,h,_=>by simp at h
 |(k',d,Zq0)::fs,o::os,a,0,f,h1,h2,hn=>by
  simp at h1 h2;subst h1 h2;simp only[aZ,nA];refine vP fs os a (fun f hf e=>?_);simp only[aN,List.nodup_cons]at hn;exact hn.1 (cP.2 ⟨f,hf,by cases e;rfl⟩)
 |(k',d,Zq0)::fs,o::os,a,j+1,f,h1,h2,hn=>by
  simp only[cS]at h1 h2;simp only[aN,List.nodup_cons]at hn;simp only[aW]
  cases o with
  |none=>simp only[nA];exact wQ fs os a j f h1 h2 hn.2
  |some c=>simp only[nA];exact wQ fs os _ j f h1 h2 hn.2
def us{b}:∀(fs:List (Nat×Tmp×Obj))(os:List (Option Nat))(l:Array Bool)(j:Nat)(f:Nat×Tmp×Obj),fs[j]? =some f->os[j]? =some none->
 lV fs (os.set j (some b)) l=(lV fs os l).setIfInBounds f.1 true
 |[],_,_,_,_,h,_=>by simp at h
 |_::_,[],_,_,_,_,h=>by simp at h
 |(k',d,Zq0)::fs,o::os,l,0,f,h1,h2=>by
  simp at h1 h2;subst h1 h2;simp only[aZ,lV];exact nf k' fs os l
 |(k',d,Zq0)::fs,o::os,l,j+1,f,h1,h2=>by
  simp only[cS]at h1 h2;simp only[aW]
  cases o with
  |none=>simp only[lV];exact us fs os l j f h1 h2
  |some c=>simp only[lV];exact us fs os _ j f h1 h2
def qT(fs:List (Nat×Tmp×Obj))(l:Array Bool):Array Bool:=fs.foldl (fun l f=>l.setIfInBounds f.1 true) l
def vQ{j}:∀(fs:List (Nat×Tmp×Obj))(os:List (Option Nat))(l:Array Bool),(∀(i b:Nat)(f:Nat×Tmp×Obj),fs[i]? =some f->os[i]? =some (some b)->j≠f.1)->j∈Region.ready md ops l->j∈Region.ready md ops (lV fs os l)
 |[],_,_,_,h=>by simpa[lV]using h
 |_::_,[],_,_,h=>by simpa[lV]using h
 |(k,d,Zq0)::fs,none::os,l,hn,h=>by simp only[lV];exact vQ fs os l (fun i b f h1 h2=>hn (i+1) b f (by simpa using h1) (by simpa using h2)) h
 |(k,d,Zq0)::fs,some b::os,l,hn,h=>by
  simp only[lV];exact vQ fs os _ (fun i b f h1 h2=>hn (i+1) b f (by simpa using h1) (by simpa using h2)) (ready_mono h (hn 0 b (k,d,Zq0) rfl rfl))
def vk{b}:∀(fs:List (Nat×Tmp×Obj))(os:List (Option Nat))(l:Array Bool)(j:Nat)(f:Nat×Tmp×Obj),fs[j]? =some f->os[j]? =some (some b)->(lV fs os l).getD f.1 true=true
 |[],_,_,_,_,h,_=>by simp at h
 |_::_,[],_,_,_,_,h=>by simp at h
 |(k',d,Zq0)::fs,o::os,l,0,f,h1,h2=>by
  simp at h1 h2;subst h1 h2;simp only[lV,nf];exact uR _ _
 |(k',d,Zq0)::fs,o::os,l,j+1,f,h1,h2=>by
  simp only[cS]at h1 h2
  cases o with
  |none=>simp only[lV];exact vk fs os l j f h1 h2
  |some c=>simp only[lV];exact vk fs os _ j f h1 h2
def ut(k):∀(fs:List (Nat×Tmp×Obj))(l:Array Bool),qT fs (l.setIfInBounds k true)=(qT fs l).setIfInBounds k true
 |[],_=>rfl
 |(k',d,Zq0)::fs,l=>by
  show qT fs ((l.setIfInBounds k true).setIfInBounds k' true)=(qT fs (l.setIfInBounds k' true)).setIfInBounds k true
  by_cases h:k=k'
  .subst h
   rw[<- ut k fs]
  .rw[cC _ _ h,ut k fs]
def se{j}:∀(fs:List (Nat×Tmp×Obj))(os:List (Option Nat))(l:Array Bool),(∀f∈fs,j≠f.1)->j∈Region.ready md ops (lV fs os l)->j∈Region.ready md ops (qT fs l)
 |[],_,_,_,h=>by simpa[lV,qT]using h
 |(k,d,Zq0)::fs,[],l,hn,h=>by
  show j∈Region.ready md ops (qT fs (l.setIfInBounds k true))
  rw[ut];exact ready_mono (se fs [] l (fun f hf=>hn f (au _ hf)) (by cases fs<;>simpa[lV]using h)) (hn _ (aG ..))
 |(k,d,Zq0)::fs,none::os,l,hn,h=>by
  show j∈Region.ready md ops (qT fs (l.setIfInBounds k true))
  rw[ut];exact ready_mono (se fs os l (fun f hf=>hn f (au _ hf)) h) (hn _ (aG ..))
 |(k,d,Zq0)::fs,some b::os,l,hn,h=>se fs os _ (fun f hf=>hn f (au _ hf)) h
def Eb:∀(fs:List (Nat×Tmp×Obj))(bs:List Nat)(l:Array Bool),bs.length=fs.length->lV fs (bs.map some) l=qT fs l
 |[],[],_,_=>rfl
 |[],b::bs,_,h=>by simp at h
 |f::fs,[],_,h=>by simp at h
 |(k,d,Zq0)::fs,b::bs,l,h=>by
  show lV fs (bs.map some) (l.setIfInBounds k true)=qT fs (l.setIfInBounds k true)
  exact Eb fs bs _ (by simpa using h)
def MD(ops:Array Oper)(fs:List (Nat×Tmp×Obj))(o:Oper):Bool:=
 fs.all fun f=>match ops[f.1]? with|some ok=>decide (ok.dst=some f.2.1)&&ok.apart ops o|none=>false
def Gr{fs o}(h:MD ops fs o=true):∀f∈fs,f.2.1 ∉ o.looksAt ops/\o.dst≠some f.2.1:=fun f hf=>by
 have:=an.1 h f hf
 cases hk:ops[f.1]? with
 |none=>simp[hk]at this
 |some ok=>
  simp only[hk,am,aD]at this;exact J5 this.1 this.2
def tB(o)(c:∀cs b,o.op≠ .select cs b):∀(fs:List (Nat×Tmp×Obj))(os:List (Option Nat))(a:Act),(∀f∈fs,f.2.1 ∉ o.looksAt ops)->
 execOp (nA fs os a).eval o=execOp a.eval o/\Region.wanted o (yielded ops (nA fs os a).tmps)=Region.wanted o (yielded ops a.tmps)
 |[],_,_,_=>by simp[nA]
 |_::_,[],_,_=>by simp[nA]
 |(k',d,Zq0)::fs,none::os,a,h=>by simp only[nA];exact tB o c fs os a (fun f hf=>h f (au _ hf))
 |(k',d,Zq0)::fs,some b::os,a,h=>by
  simp only[nA];obtain⟨h1,h2⟩:=tB o c fs os (a.put (some d) (.pointer (J b))) (fun f hf=>h f (au _ hf));have i:=h _ (aG ..);exact⟨h1.trans (execOp_put o c a (some d) _ (fun e g=>by cases g;exact i)),h2.trans (wanted_put o a (some d) _ (fun e g=>by cases g;exact i))⟩
def wR{j k}(o:ops[j]? =some k)(i:∀cs b,k.op≠ .select cs b)(n:∀c a d u w,Q (.panic c) a w->Q (.panic c) (a.put (some d) u) w):
 ∀(fs:List (Nat×Tmp×Obj))(os:List (Option Nat)){K l:Act->World->Prop}{a:Act}{w:World},(∀f∈fs,f.2.1 ∉ k.looksAt ops/\k.dst≠some f.2.1)->
 (∀a' w',K a' w'->l (nA fs os a') w')->wpOp P ops Q j K a w->wpOp P ops Q j l (nA fs os a) w
 |[],_,_,_,_,_,_,hK,h=>by simp only[nA]at*;exact wpOp_mono hK h
 |_::_,[],_,_,_,_,_,hK,h=>by simp only[nA]at*;exact wpOp_mono hK h
 |(k',d,Zq0)::fs,none::os,_,_,_,_,hap,hK,h=>by
  simp only[nA]at*;exact wR o i n fs os (fun f hf=>hap f (au _ hf)) hK h
 |(k',d,Zq0)::fs,some b::os,K,l,a,w,hap,hK,h=>by
  simp only[nA]at*;obtain⟨p1,p⟩:=hap _ (aG ..);refine wR (K:=fun a' w'=>∃g,a'=g.put (some d) (.pointer (J b))/\K g w') o i n fs os (fun f hf=>hap f (au _ hf)) (fun a' w' ⟨g,e,m⟩=>by subst e;exact hK g w' m) ?_;exact MC o p1 p i (fun c a w=>n c a d _ w) (fun a' w' m=>⟨a',rfl,m⟩) h
def yG(md:Region.Mode)(ops:Array Oper)(j i:Nat):Bool:=match ops[j]? with|some o=>o.after.any fun e=>Region.binds md e&&e.on==i|none=>false
def ME(md:Region.Mode)(ops:Array Oper)(j i:Nat):Bool:=
 yG md ops j i||(match ops[j]? with|some o=>o.after.any fun e=>Region.binds md e&&yG md ops e.on i|none=>false)
def MF(md:Region.Mode)(ops:Array Oper)(n:Nat)(a:List Nat):Bool:=
 (List.range ops.size).all fun j=>decide (j<n)||((List.range n).all fun i=>a.contains i||ME md ops j i)
def uS{i j}{a:Array Bool}(h:yG md ops j i=true)(f:∀b,ops[j]? =some b-> ∀e∈b.after,Region.binds md e=true->a.getD e.on false=true):a.getD i false=true:=by
 unfold yG at h
 cases ho:ops[j]? with
 |none=>simp[ho]at h
 |some o=>
  rw[ho]at h;obtain⟨e,d,h3⟩:=Array.any_eq_true'.1 h;simp only[am,dz]at h3;have c:=f o ho e d h3.1
  rwa[h3.2]at c
def xD{n i m}(t:MF md ops n m=true)(h:i<n)(r:m.contains i=false){a}(l:HeadInv md ops ops.size a)(k:a.getD i true=false)(j)(u:n<=j):j ∉ Region.ready md ops a:=fun s=>by
 obtain⟨_,v,c,b⟩:=mem_ready.1 s;have hlt:j<ops.size:=(cu.1 c).1;have h1:=an.1 t j (aJ.2 hlt);simp only[dN,aD]at h1
 obtain h1|h1:=h1
 .omega
 have h2:=an.1 h1 i (aJ.2 h);rw[r,Bool.false_or]at h2;unfold ME at h2
 have q:∀o,ops[j]? =some o-> ∀e∈o.after,Region.binds md e=true->a.getD e.on false=true:=fun o d e g p=>by
  rw[c]at d;cases d;exact b e g p
 have f:a.getD i false=true:=by
  obtain h2|h2:=dN _ _▸h2
  .exact uS h2 q
  .rw[c]at h2
   obtain⟨e,g,h3⟩:=Array.any_eq_true'.1 h2;simp only[am]at h3;exact uS h3.2 (fun o d=>l.closed e.on o d (b e g h3.1))
 rw[getD_both k]at f;cases f
def YieldsIf.stayP{b o v a}{w w':World}(h:YieldsIf P ops (fun x=>b=true\/Below w w x) o v a)(c:b=true\/Below w w w'):
 YieldsIf P ops (fun x=>b=true\/Below w' w' x) o v a:=
 h.imp (fun⟨h1,h2⟩=>⟨h1,fun x d=>h2 x (by
  obtain c|c:=c
  .exact VR c
  .obtain d|d:=d
   .exact VR d
   .exact VS (c.trans (d.mono c.size)))⟩) id
def Gs{n i r v g}(hi:ops[i]? =some r)(y:∀(j:Nat)(o:Oper) cs b,ops[j]? =some o->o.op≠ .select cs b)(B:g=false-> ∀d:Array Bool,HeadInv md ops ops.size d->d.getD i true=false-> ∀j,n<=j->j ∉ Region.ready md ops d)(R:∀c a w,Q (.panic c) (a.put r.dst v) w->Q (.panic c) a w):
 ∀(fuel:Nat)(d:Array Bool)(a:Act)(w:World),HeadInv md ops ops.size d->
  (∀j s,ops[j]? =some s->j≠i->d.getD j true=false->(∀e∈s.after,Region.binds md e=true->e.on≠i)->r.apart ops s=true)->
  i∈Region.ready md ops d->YieldsIf P ops (fun x=>g=true\/Below w.heap.size w x) r v a->
  Pb P md ops Q n fuel (d.setIfInBounds i true) (a.put r.dst v) w->Pb P md ops Q n (fuel+1) d a w:=by
 intro fuel
 induction fuel with
 |zero=>
  intro d a w _ _ q E H;refine⟨fun h=>(by rw[h]at q;cases q),fun j z=>?_⟩;by_cases f:j=i
  .subst f;exact E.wpOp hi (VS (TH _ _)) ⟨fun _=>TH _ _,H⟩
  .have:=ready_mono z f
   rw[H.1]at this;cases this
 |succ fuel X=>
  intro d a w K l q E H;have p:=(mem_ready.1 q).1;refine⟨fun h=>(by rw[h]at q;cases q),fun j z=>?_⟩;by_cases f:j=i
  .subst f;exact E.wpOp hi (VS (TH _ _)) ⟨fun _=>TH _ _,H⟩
  .have h1:=H.2 j (ready_mono z f)
   obtain⟨t,s,u,C⟩:=mem_ready.1 z
   have D:∀e∈s.after,Region.binds md e=true->e.on≠i:=fun e T S L=>by
    have h1:=C e T S;rw[L,getD_both p]at h1;cases h1
   have h2:=wpOp_putIf u (l j s u f t D) (fun cs b=>y i r cs b hi) (fun cs b=>y j s cs b u) R E h1
   have m:∀k ok,ops[k]? =some ok->k≠i->(d.setIfInBounds j true).getD k true=false->
    (∀e∈ok.after,Region.binds md e=true->e.on≠i)->r.apart ops ok=true:=fun k ok W M p N=>by
    refine l k ok W M ?_ N;by_cases F:j=k
    .subst F;exact t
    .rw[getD_set_ne true F]at p;exact p
   have A:∀w',(j<n->Below w.heap.size w w')->(g=true\/Below w.heap.size w w'):=fun w' hw=>by
    cases hpu:g with
    |true=>exact VR rfl
    |false=>
     refine VS (hw ?_)
     obtain h|h:=dC j n
     .exact h
     .exact absurd z (B hpu d K p j h)
   refine wpOp_mono (fun a' w' h3=>⟨h3.2.1,X (d.setIfInBounds j true) a' w' (K.set z (cu.1 u).1) m (ready_mono q (fu f)) (YieldsIf.stayP h3.1 (A w' h3.2.1)) ?_⟩) h2;rw[cC _ _ f];exact h3.2.2
def Bx(P:Program)(ops:Array Oper)(Q:Exit->Act->World->Prop)(n:Nat)(c:List Nat)(fs:List (Nat×Tmp×Obj)):(Nat->Prop)->List (Nat×Bool)->Act->World->Prop
 |C,[],a,w=>∀(bs:List Nat) w',bs.length=fs.length->(∀(j b:Nat)(f:Nat×Tmp×Obj),bs[j]? =some b->fs[j]? =some f->C b/\w'.heap[b]? =some f.2.2)->(∀(i j b:Nat),bs[i]? =some b->bs[j]? =some b->i=j)->Below w w w'->
   wpList P ops Q (ops.toList.drop n) (nA fs (bs.map some) a) w'
 |C,(i,true)::rest,a,w=>∃o v,ops[i]? =some o/\YieldsIf P ops (fun x=>c.contains i=true\/Below w w x) o v a/\Bx P ops Q n c fs C rest (a.put o.dst v) w
 |C,(i,false)::rest,a,w=>∀x,Below w w x->wpOp P ops Q i (fun a' w'=>Below x.heap.size x w'/\Bx P ops Q n c fs (fun b=>C b/\(b<x.heap.size\/w'.heap.size<=b)) rest a' w') a x
def xE(md:Region.Mode)(ops:Array Oper)(n:Nat)(fs:List (Nat×Tmp×Obj)):List (Nat×Bool)->Array Bool->Bool
 |[],listed=>Region.seqB md ops (ops.size-n) n (qT fs listed)
 |(i,t)::rest,listed=>
  (Region.ready md ops listed).contains i&& (if t then Region.free md ops listed i else decide (Region.ready md ops (qT fs listed)=[i]))&&
  decide (i<n)&& (fs.all fun f=>decide (i≠f.1))&& (match ops[i]? with|some o=>MD ops fs o|none=>false)&&xE md ops n fs rest (listed.setIfInBounds i true)
def Sk(C:Nat->Prop)(x:World)(fs:List (Nat×Tmp×Obj))(os:List (Option Nat)):Prop:=
 os.length=fs.length/\(∀(j b:Nat)(f:Nat×Tmp×Obj),os[j]? =some (some b)->fs[j]? =some f->C b/\x.heap[b]? =some f.2.2)/\(∀(i j b:Nat),os[i]? =some (some b)->os[j]? =some (some b)->i=j)
def Gt{i}{m:Oper}{a}(h:∀j c,ops[j]? =some c->j≠i->a.getD j true=false->(∀e∈c.after,Region.binds md e=true->e.on≠i)->m.apart ops c=true):
 ∀(fs:List (Nat×Tmp×Obj))(os:List (Option Nat)),∀j c,ops[j]? =some c->j≠i->(lV fs os a).getD j true=false->(∀e∈c.after,Region.binds md e=true->e.on≠i)->m.apart ops c=true
 |[],_=>by simpa[lV]using h
 |_::_,[]=>by simpa[lV]using h
 |(k,d,Zq0)::fs,none::os=>by simp only[lV];exact Gt h fs os
 |(k,d,Zq0)::fs,some b::os=>fun j c o l f n=>by
  simp only[lV,nf]at f;refine Gt h fs os j c o l ?_ n;by_cases g:k=j
  .subst g;rw[uR]at f;cases f
  .rwa[getD_set_ne true g]at f
def ql(os:List (Option Nat)):Nat:=os.countP fun o=>o.isNone
def yX{b}:∀(os:List (Option Nat))(j:Nat),os[j]? =some none->ql (os.set j (some b))+1=ql os
 |[],_,h=>by simp at h
 |o::os,0,h=>by
  simp at h;subst h;simp[ql]
 |o::os,j+1,h=>by
  have:=yX (b:=b) os j (by simpa using h);unfold ql at*;rw[aW,fI,fI];omega
def yY:∀(os:List (Option Nat)),ql os=0-> ∃bs:List Nat,os=bs.map some
 |[],_=>⟨[],rfl⟩
 |none::os,h=>by simp[ql]at h
 |some b::os,h=>by
  obtain⟨bs,e⟩:=yY os (by simpa[ql]using h);exact⟨b::bs,by rw[e];rfl⟩
def By:∀(os:List (Option Nat)),ql os≠0-> ∃j:Nat,os[j]? =some none
 |[],h=>by simp[ql]at h
 |none::os,h=>⟨0,rfl⟩
 |some b::os,h=>by
  obtain⟨j,e⟩:=By os (by simpa[ql]using h);exact⟨j+1,by simpa using e⟩
def Qv(P:Program)(ops:Array Oper)(n:Nat)(fs:List (Nat×Tmp×Obj)):Prop:=
 (fs.map fun f=>f.2.1).Nodup/\(fs.map fun f=>f.1).Nodup/\ ∀f∈fs,f.1<n/\ ∃ok,ops[f.1]? =some ok/\ok.dst=some f.2.1/\ok.guard=none/\ ∀(a:Act)(w:World),(execOp a.eval ok).run P w=.ok (.value (.pointer (J (w.heap.size)))) (w.alloc f.2.2)
def Bz{fs:List (Nat×Tmp×Obj)}(h:(fs.map fun f=>f.1).Nodup){i j:Nat}{f g}(hi:fs[i]? =some f)(a:fs[j]? =some g)(e:f.1=g.1):i=j:=by
 have h1:i<(fs.map fun f=>f.1).length:=by have:=(TG.1 hi).1;simpa using this
 have h2:(fs.map fun f=>f.1)[i]? =(fs.map fun f=>f.1)[j]? :=by
  rw[aR,aR,hi,a];simp[e]
 exact(List.getElem?_inj h1 h).1 h2
def MG{n pu fs}(b4:Qv P ops n fs)(b3:∀f∈fs,pu.contains f.1=false)(L:Region.noSelect ops=true)(hs:MF md ops n pu=true)(hn:n<=ops.size)(hQ:∀c a d u w,Q (.panic c) a w->Q (.panic c) (a.put (some d) u) w)(b2:∀c a o u w,Q (.panic c) (a.put o u) w->Q (.panic c) a w):
 ∀(m:Nat)(ord:List (Nat×Bool))(C:Nat->Prop)(q:Array Bool)(os:List (Option Nat))(a:Act)(w x:World),m=ord.length+ql os->Sk C x fs os->(∀b,x.heap.size<=b->C b)->HeadInv md ops ops.size (lV fs os q)->
  (∀(j:Nat)(f:Nat×Tmp×Obj),fs[j]? =some f->f.1∈Region.ready md ops q)->xE md ops n fs ord q=true->Bx P ops Q n pu fs C ord a w->
  Below w.heap.size w x->Pb P md ops Q n (m+(ops.size-n)) (lV fs os q) (nA fs os a) x:=by
 obtain⟨b6,b0,W⟩:=b4;intro m
 induction m with
 |zero=>
  intro ord C q os a w x hm r M K R hB h T;obtain⟨bs,rfl⟩:=yY os (by omega);obtain rfl:ord=[]:=aX.1 (by omega)
  have a0:bs.length=fs.length:=by simpa using r.1
  rw[Eb fs bs q a0]
  have:=vh (md:=md) (n:=n) (Q':=Q) (ops.toList.drop n) n (qT fs q) _ x (aa _) (fun j=>by simp[cp]) (by simpa[xE]using hB)
   (h bs x a0 (fun j b f h1 h2=>r.2.1 j b f (by simp[h1]) h2) (fun i j b h1 h2=>r.2.2 i j b (by simp[h1]) (by simp[h2])) T)
  simpa using this
 |succ m ih=>
  intro ord C q os a w x hm r M K R hB h T
  have H:∀(j:Nat)(f:Nat×Tmp×Obj),fs[j]? =some f->os[j]? =some none->
   wpOp P ops Q f.1 (fun a' w'=>(f.1<n->Below x x w')/\Pb P md ops Q n (m+(ops.size-n)) ((lV fs os q).setIfInBounds f.1 true) a' w') (nA fs os a) x:=by
   intro j f A s;obtain⟨c1,ok,b1,hd,hg,a7⟩:=W f (aL A);have z:Below x x (x.alloc f.2.2):=(TH _ _).alloc (aa _) _
   have hw:Region.wanted ok (yielded ops (nA fs os a).tmps)=true:=by simp[Region.wanted,hg]
   unfold wpOp;simp only[b1,hw,bX,Oper.wp,a7,Oper.upon,hd];refine .inl ⟨fun _=>z,?_⟩
   have b8:f.1∈Region.ready md ops (lV fs os q):=vQ fs os q (fun i b g h1 h2 e=>by
    obtain rfl:=Bz b0 h1 A e.symm
    rw[s]at h2;cases h2) (R j f A)
   have B:=ih ord C q (os.set j (some x)) a w (x.alloc f.2.2) (by have:=yX (b:=x.heap.size) os j s;omega) ?_ (fun b X=>M b (af z.size X)) (by rw[us fs os q j f A s];exact K.set b8 (cu.1 b1).1) R hB h (T.trans (z.mono T.size))
   .rwa[us fs os q j f A s,wQ fs os a j f A s b6]at B
   .refine⟨by simpa using r.1,fun i b g h1 h2=>?_,fun i i' b h1 h2=>?_⟩
    .rw[cF]at h1
     split at h1
     .rename_i e;subst e
      split at h1
      .cases h1
       rw[A]at h2;cases h2;exact⟨M _ (aa _),TL _ _⟩
      .cases h1
     .obtain⟨h3,S⟩:=r.2.1 i b g h1 h2
      exact⟨h3,(z.block b (TK S)).trans S⟩
    .have hlt:∀(i b:Nat),os[i]? =some (some b)->b<x.heap.size:=fun i b h3=>by
      have h5:i<fs.length:=by rw[<- r.1];exact(TG.1 h3).1
      exact TK (r.2.1 i b fs[i] h3 (ae h5)).2
     rw[cF]at h1 h2;split at h1<;>split at h2
     .omega
     .split at h1
      .cases h1;have:=hlt _ _ h2;omega
      .cases h1
     .split at h2
      .cases h2;have:=hlt _ _ h1;omega
      .cases h2
     .exact r.2.2 i i' b h1 h2
  have F:∀j∈Region.ready md ops (lV fs os q),(∃(i:Nat)(f:Nat×Tmp×Obj),fs[i]? =some f/\os[i]? =some none/\j=f.1)\/((∀f∈fs,j≠f.1)/\j∈Region.ready md ops (qT fs q)):=by
   intro j A;by_cases hk:∃f∈fs,j=f.1
   .obtain⟨f,hf,rfl⟩:=hk
    obtain⟨i,hi⟩:=List.getElem?_of_mem hf
    have hlt:i<os.length:=by rw[r.1];exact(TG.1 hi).1
    cases s:os[i]? with
    |none=>rw[List.getElem?_eq_none_iff]at s;omega
    |some o=>
     cases o with
     |none=>exact VR ⟨i,f,hi,s,rfl⟩
     |some b=>
      have h1:=vk fs os q i f hi s;have h2:=(mem_ready.1 A).1;rw[h1]at h2;cases h2
   .have a9:∀f∈fs,j≠f.1:=fun f hf e=>hk ⟨f,hf,e⟩
    exact VS ⟨a9,se fs os q a9 A⟩
  have a4:ql os≠0-> ∃(i:Nat)(f:Nat×Tmp×Obj),fs[i]? =some f/\os[i]? =some none/\f.1∈Region.ready md ops (lV fs os q):=fun hp=>by
   obtain⟨i,s⟩:=By os hp
   have hlt:i<fs.length:=by rw[<- r.1];exact(TG.1 s).1
   refine⟨i,fs[i],ae hlt,s,vQ fs os q (fun i' b g h1 h2 e=>?_) (R i _ (ae hlt))⟩;obtain rfl:=Bz b0 h1 (ae hlt) e.symm;rw[s]at h2;cases h2
  cases ord with
  |nil=>
   have hp:ql os≠0:=by simp at hm;omega
   obtain⟨i0,f0,a8,c2,a6⟩:=a4 hp;have D:=hB;rw[show m+1+(ops.size-n)=m+(ops.size-n)+1 by omega];refine⟨fun h0=>(by rw[h0]at a6;cases a6),fun j A=>?_⟩
   obtain ⟨i,f,hi,s,rfl⟩|⟨_,E⟩:=F j A
   .exact H i f hi s
   .obtain hlt|hge:=dC n ops.size
    .obtain⟨k0,b5⟩:∃k0,ops.size-n=k0+1:=⟨ops.size-n-1,by omega⟩
     simp only[xE,b5,Region.seqB,am,aD]at D;rw[D.1]at E
     obtain rfl:j=n:=by simpa using E
     exact absurd A (xD hs (W f0 (aL a8)).1 (b3 f0 (aL a8)) K (mem_ready.1 a6).1 j (aa _))
    .simp only[xE,show ops.size-n=0 by omega,Region.seqB]at D
     rw[List.isEmpty_iff.1 D]at E;cases E
  |cons p a3=>
   obtain⟨i,t⟩:=p;have D:=hB
   cases s:ops[i]? with
   |none=>simp[xE,s]at hB
   |some o=>
   simp only[xE,am,aD,s]at D;obtain⟨⟨⟨⟨⟨h1,h2⟩,h3⟩,S⟩,h5⟩,h7⟩:=D
   have h1:i∈Region.ready md ops q:=by simpa using h1
   have S:∀f∈fs,i≠f.1:=fun f hf=>by simpa using an.1 S f hf
   have a5:=Gr h5;have N:i∈Region.ready md ops (lV fs os q):=vQ fs os q (fun _ _ f hf _=>S f (aL hf)) h1
   have a2:∀(j:Nat)(f:Nat×Tmp×Obj),fs[j]? =some f->f.1∈Region.ready md ops (q.setIfInBounds i true):=fun j f A=>ready_mono (R j f A) (fu (S f (aL A)))
   rw[show m+1+(ops.size-n)=m+(ops.size-n)+1 by omega]
   cases t with
   |true=>
    obtain⟨o',v,a1,hy,h⟩:=h
    obtain rfl:o=o':=by rw[s]at a1;cases a1;rfl
    simp only[bX]at h2;obtain⟨e1,e2⟩:=tB (ops:=ops) o (fun cs e=>Region.noSelect_spec L i o cs e s) fs os a (fun f hf=>(a5 f hf).1);have c0:YieldsIf P ops (fun y=>pu.contains i=true\/Below x x y) o v (nA fs os a):=(YieldsIf.stayP hy (VS T)).of_same e1 e2;have B:=ih a3 C (q.setIfInBounds i true) os (a.put o.dst v) w x (by simp at hm;omega) r M (by rw[nf];exact K.set N (cu.1 s).1) a2 h7 h T;rw[nf,vP fs os a (fun f hf=>(a5 f hf).2)]at B;exact Gs s (Region.noSelect_spec L) (fun b7 l hl b9 j A=>xD hs h3 b7 hl b9 j A) (fun c a w=>b2 c a o.dst v w) _ _ _ x K (Gt (Region.free_spec s h2) fs os) N c0 B
   |false=>
    simp only[bC,de,aD]at h2;refine⟨fun h0=>(by rw[h0]at N;cases N),fun j A=>?_⟩
    obtain ⟨i',f,hi,a1,rfl⟩|⟨_,E⟩:=F j A
    .exact H i' f hi a1
    .rw[h2]at E
     obtain rfl:j=i:=by simpa using E
     refine wR s (fun cs e=>Region.noSelect_spec L j o cs e s) hQ fs os a5 (fun a' w' h'=>?_) (h x T);refine⟨fun _=>h'.1,?_⟩;have B:=ih a3 _ (q.setIfInBounds j true) os a' w' w' (by simp at hm;omega) ⟨r.1,fun k b f hk hf=>?_,r.2.2⟩ (fun b X=>⟨M b (af h'.1.size X),VS X⟩) (by rw[nf];exact K.set N (cu.1 s).1) a2 h7 h'.2 (TH _ _)
     .rw[nf]at B;exact B
     .obtain⟨h8,h9⟩:=r.2.1 k b f hk hf
      have hlt:=TK h9;exact⟨⟨h8,VR hlt⟩,(h'.1.block b hlt).trans h9⟩
def Jk(md:Region.Mode)(ops:Array Oper)(n:Nat)(a:List Nat)(fs:List (Nat×Tmp×Obj))(ord:List (Nat×Bool)):Bool:=
 Region.noSelect ops&&decide (n<=ops.size)&&decide (ord.length+fs.length=n)&&MF md ops n a&& (fs.all fun f=>(Region.ready md ops (Array.replicate ops.size false)).contains f.1&& !a.contains f.1)&&xE md ops n fs ord (Array.replicate ops.size false)
def wS:∀(fs:List (Nat×Tmp×Obj))(l:Array Bool),lV fs (fs.map fun _=>none) l=l
 |[],_=>rfl
 |_::fs,l=>wS fs l
def BA:∀(fs:List (Nat×Tmp×Obj))(a:Act),nA fs (fs.map fun _=>none) a=a
 |[],_=>rfl
 |_::fs,a=>BA fs a
def yZ:∀(fs:List (Nat×Tmp×Obj)),ql (fs.map fun _=>none)=fs.length
 |[]=>rfl
 |f::fs=>by
  have:=yZ fs;unfold ql at*;rw[aN,fI,this];rfl
def ic{id a w}(n l fs)(ord:List (Nat×Bool))(x:P.follows .mixedOrders=true)(m:Jk .any ops n l fs ord=true)(q:Qv P ops n fs)(r:∀c a d u w,Q (.panic c) a w->Q (.panic c) (a.put (some d) u) w)(p:∀c a o u w,Q (.panic c) (a.put o u) w->Q (.panic c) a w)(h:Bx P ops Q n l fs (fun b=>w.heap.size<=b) ord a w.drew):(Code.region id ops true).wp P Q a w:=by
 simp only[Jk,am,aD]at m;obtain⟨⟨⟨⟨⟨g,y⟩,e⟩,B⟩,A⟩,z⟩:=m
 have k:∀f∈fs,f.1∈Region.ready .any ops (Array.replicate ops.size false)/\l.contains f.1=false:=fun f hf=>by
  have:=an.1 A f hf;simp only[am,di]at this;exact⟨by simpa using this.1,this.2⟩
 have:=MG (P:=P) (Q:=Q) (md:=.any) q (fun f hf=>(k f hf).2) g B y r p (ord.length+fs.length) ord _ (Array.replicate ops.size false) (fs.map fun _=>none) a w.drew w.drew (by rw[yZ])
  ⟨by simp,fun j b f h1 _=>by rw[aR]at h1;cases hx:fs[j]? <;>simp[hx]at h1,fun i j b h1 _=>by rw[aR]at h1;cases hx:fs[i]? <;>simp[hx]at h1⟩
  (fun b s=>s) (by rw[wS];exact⟨by simp,fun j C _ e=>(by rw[getD_replicate_false]at e;cases e),fun t h1 h2=>absurd h2 (by omega)⟩) (fun j f v=>(k f (aL v)).1) z h (TH _ _)
 rw[wS,BA,e,show n+(ops.size-n)=ops.size by omega]at this;exact wp_region_any x (vg _ _ _ _ this)
def gZ{n i c fs}{C:Nat->Prop}{b o v}{a:Act}{w:World}(e:∀x,Below w w x->(execOp a.eval o).run P x=.ok (.value v) x)(h:Bx P ops Q n c fs C b (a.put o.dst v) w)(hi:ops.toList[i]? =some o:=by rfl)(hpu:c.contains i=false:=by rfl)(hw:Region.wanted o (yielded ops a.tmps)=true:=by rfl):Bx P ops Q n c fs C ((i,true)::b) a w:=
 ⟨o,v,by rw[<- bc];exact hi,VR ⟨hw,fun x d=>e x (d.resolve_left (by rw[hpu];decide))⟩,h⟩
def iy{n i c fs}{C:Nat->Prop}{b o v}{a:Act}{w:World}(d:∀x,(execOp a.eval o).run P x=.ok (.value v) x)(h:Bx P ops Q n c fs C b (a.put o.dst v) w)(hi:ops.toList[i]? =some o:=by rfl)(hw:Region.wanted o (yielded ops a.tmps)=true:=by rfl):Bx P ops Q n c fs C ((i,true)::b) a w:=
 ⟨o,v,by rw[<- bc];exact hi,VR ⟨hw,fun x _=>d x⟩,h⟩
def nh{n i c fs}{C:Nat->Prop}{b o a}{w:World}(hi:ops.toList[i]? =some o)(hw:Region.wanted o (yielded ops a.tmps)=false)(h:Bx P ops Q n c fs C b (a.put o.dst undef) w):Bx P ops Q n c fs C ((i,true)::b) a w:=
 ⟨o,undef,by rw[<- bc];exact hi,VS ⟨hw,rfl⟩,h⟩
def iK{n i d fs}{C:Nat->Prop}{c o a}{w:World}(h:∀x,Below w w x-> ∀K:Act->World->Prop,(∀a' w',Below x.heap.size x w'->Bx P ops Q n d fs (fun b=>C b/\(b<x.heap.size\/w'.heap.size<=b)) c a' w'->K a' w')->o.wp P a x K Q)(hi:ops.toList[i]? =some o:=by rfl)(hg:o.guard=none:=by rfl):
 Bx P ops Q n d fs C ((i,false)::c) a w:=by
 have hw:Region.wanted o (yielded ops a.tmps)=true:=by simp[Region.wanted,hg]
 rw[bc]at hi;intro x e;unfold wpOp;simp only[hi,hw,bX];exact .inl (h x e _ fun a' w' h1 h2=>⟨h1,h2⟩)
def kH{n i d fs}{C:Nat->Prop}{c o a}{w:World}(hi:ops.toList[i]? =some o)(hw:Region.wanted o (yielded ops a.tmps)=true)(h:∀x,Below w w x-> ∀K:Act->World->Prop,(∀a' w',Below x.heap.size x w'->Bx P ops Q n d fs (fun b=>C b/\(b<x.heap.size\/w'.heap.size<=b)) c a' w'->K a' w')->o.wp P a x K Q):
 Bx P ops Q n d fs C ((i,false)::c) a w:=by
 rw[bc]at hi;intro x e;unfold wpOp;simp only[hi,hw,bX];exact .inl (h x e _ fun a' w' h1 h2=>⟨h1,h2⟩)
def jV{n e}{C:Nat->Prop}{a}{w:World}{l}(d:ops.toList.drop n=l)(h:∀w',Below w w w'->wpList P ops Q l a w'):Bx P ops Q n e [] C [] a w:=by
 subst d;intro bs w' b _ _ c;obtain rfl:bs=[]:=aX.1 b;exact h w' c
def nV{n k1 i d c}{C:Nat->Prop}{a}{w:World}{l:List Oper}(g:ops.toList.drop n=l)(h:∀b1 w',C b1->Below w w w'->w'.heap[b1]? =some c->wpList P ops Q l (a.put (some d) (.pointer (J b1))) w'):
 Bx P ops Q n i [(k1,d,c)] C [] a w:=by
 subst g;intro bs w' b h1 h2 f
 match bs,b with
 |[b1],_=>
  obtain⟨c1,e⟩:=h1 0 b1 _ rfl rfl;exact h b1 w' c1 f e
end
def Si(s:Bool)(m:Nat):Int:=if s then -(m:Int)else m
def QR(z):Si (decide (z<0)) z.natAbs=z:=by
 unfold Si;by_cases h:z<0
 .rw[aP h,aq rfl];omega
 .rw[aw h,aj (by decide)];omega
def Pv(s){m g}(h:g ∣ m):Si s (m/g)=Si s m/g:=by
 unfold Si;cases s
 .simp
 .simp only[bX]
  rw[Int.natCast_ediv,Int.neg_ediv_of_dvd (Int.natCast_dvd_natCast.2 h)]
def zA(n){d}(a:d≠0):(mkRat n d).num=n/(n.natAbs.gcd d:Nat)/\(mkRat n d).den=d/n.natAbs.gcd d:=by
 rw[fX,eJ a,Rat.normalize_eq];exact⟨rfl,rfl⟩
def B8:∀(l:List UInt8)(a:Nat),a<=mX a l
 |[],a=>by rw[mE];exact aa _
 |b::l,a=>by rw[lO];exact af (by omega) (B8 l _)
def qC:∀(l:List UInt8)(a:Nat),a<18446744073709551616->(∀b∈l,ma b=true)->parseUint10 a l=if mX a l<18446744073709551616 then .ok (mX a l)else .range
 |[],a,h,_=>by rw[mE,aq h,parseUint10]
 |b::l,a,h,hd=>by
  obtain⟨k,d,rfl⟩:=vY (hd b (aG));have f:=B8 l (10*a+(48+k-48));rw[parseUint10,lA d,aq (by omega),lO,lA d];by_cases h1:1844674407370955162<=a
  .rw[aq h1,aj (by omega)]
  .rw[aj h1]
   by_cases h2:18446744073709551616<=a*10+(48+k-48)
   .rw[aq h2,aj (by omega)]
   .rw[aj h2,show a*10+(48+k-48)=10*a+(48+k-48)by omega]
    exact qC l _ (by omega) (fun c e=>hd c (au _ e))
def zD{l}(d:l≠[])(g:∀b∈l,ma b=true)(neg:Bool):atoiAll ((if neg then[45]else[])++l)=if(if neg then -((mX 0 l:Nat):Int)else((mX 0 l:Nat):Int)) < -9223372036854775808\/9223372036854775807<(if neg then -((mX 0 l:Nat):Int)else((mX 0 l:Nat):Int))then .range else .ok (if neg then -((mX 0 l:Nat):Int)else((mX 0 l:Nat):Int)):=by
 have i:parseMag l=if mX 0 l<18446744073709551616 then .ok (mX 0 l)else .range:=by
  unfold parseMag;rw[aj d];exact qC l 0 (by omega) g
 cases neg with
 |true=>
  have e:((if true=true then[45]else[])++l:List UInt8)=45::l:=rfl;rw[e];unfold atoiAll;have f:(45:UInt8).toNat=45:=rfl;simp only[f,or_true,bX];rw[i];by_cases a:mX 0 l<18446744073709551616
  .rw[aq a]
   simp only[];by_cases h2:9223372036854775808<mX 0 l
   .rw[aj (by simp),aq ⟨trivial,h2⟩,aq (by omega)]
   .rw[aj (by simp),aj (fun h=>h2 h.2),aj (by omega)]
  .rw[aj a]
   simp only[];rw[aq (by omega)]
 |false=>
  have e:((if false=true then[45]else[])++l:List UInt8)=l:=rfl;rw[e]
  cases l with
  |nil=>exact absurd rfl d
  |cons c r=>
   obtain⟨k,m,rfl⟩:=vY (g c (aG));unfold atoiAll;simp only[lA m];rw[aj (by omega),i];generalize mX 0 (UInt8.ofNat (48+k)::r)=v;by_cases a:v<18446744073709551616
   .rw[aq a]
    have j:¬(48+k=45):=by omega
    simp only[j,bC,de,not_false_eq_true,true_and,false_and];by_cases h2:9223372036854775808<=v
    .rw[aq h2,aq (by omega)]
    .rw[aj h2,aj (by omega)]
   .rw[aj a]
    simp only[bC,de];rw[aq (by omega)]
def zE:∀(k a:Nat),mX a (List.replicate k 48)=a*10^k
 |0,a=>by rw[fb,mE];omega
 |k+1,a=>by
  have b:(48:UInt8).toNat=48:=rfl;rw[ew,lO,zE k,b,bM];rw[eC,bE,cd 10 a,ff,cd 10]
def GT{s p}(q:EH s p)(k):atoiAll ((if q.neg then[45]else[])++(q.w++q.f++List.replicate k 48))=if wg s*10^k< -9223372036854775808\/9223372036854775807<wg s*10^k then .range else .ok (wg s*10^k):=by
 have d:∀b∈q.w++q.f++List.replicate k 48,ma b=true:=by
  intro b a
  obtain a|a:=bj.1 a
  .obtain a|a:=bj.1 a
   .exact an.1 q.hw b a
   .exact an.1 q.hf b a
  .rw[List.eq_of_mem_replicate a];rfl
 have c:q.w++q.f++List.replicate k 48≠[]:=by
  intro e;exact q.wne (eY.1 (eY.1 e).1).1
 have g:(if q.neg then -((mX 0 (q.w++q.f++List.replicate k 48):Nat):Int)else((mX 0 (q.w++q.f++List.replicate k 48):Nat):Int))=wg s*10^k:=by
  unfold wg;rw[q.un,qZ,zE,Dc q]
  cases q.neg with
  |true=>
   simp only[bX];rw[bW,dM,Int.neg_mul];rfl
  |false=>
   simp only[bC,de];rw[bW,dM];rfl
 rw[zD c d,g]
section
variable{B:Nat}{P:Program}{ops:Array Oper}{Q:Exit->Act->World->Prop}{md:Region.Mode}
def Gx{i:Nat}{n:Oper}{v:Value}(hi:ops[i]? =some n)(s:∀(j:Nat)(o:Oper) cs b,ops[j]? =some o->o.op≠ .select cs b)
 (L:∀c a w,Q (.panic c) (a.put n.dst v) w->Q (.panic c) a w):
 ∀(fuel:Nat)(d:Array Bool)(a:Act)(w:World),
  (∀j p,ops[j]? =some p->j≠i->d.getD j true=false->(∀e∈p.after,Region.binds md e=true->e.on≠i)->n.apart ops p=true)->
  i∈Region.ready md ops d->YieldsIf P ops (fun x=>Below B w x) n v a->
  qR B P md ops Q ops.size fuel (d.setIfInBounds i true) (a.put n.dst v) w->qR B P md ops Q ops.size (fuel+1) d a w:=by
 intro fuel
 induction fuel with
 |zero=>
  intro d a w _ m A H;refine⟨fun h=>(by rw[h]at m;cases m),fun j y=>?_⟩;by_cases f:j=i
  .subst f;exact A.wpOp hi (TH _ _) ⟨fun _=>TH _ _,H⟩
  .have:=ready_mono y f
   rw[H.1]at this;cases this
 |succ fuel S=>
  intro d a w g m A H;have t:=(mem_ready.1 m).1;refine⟨fun h=>(by rw[h]at m;cases m),fun j y=>?_⟩;by_cases f:j=i
  .subst f;exact A.wpOp hi (TH _ _) ⟨fun _=>TH _ _,H⟩
  .have h1:=H.2 j (ready_mono y f)
   obtain⟨q,p,r,u⟩:=mem_ready.1 y;have E:j<ops.size:=(cu.1 r).1
   have z:∀e∈p.after,Region.binds md e=true->e.on≠i:=fun e N M D=>by
    have h1:=u e N M;rw[D,getD_both t]at h1;cases h1
   have h2:=wpOp_putIf r (g j p r f q z) (fun cs b=>s i n cs b hi) (fun cs b=>s j p cs b r) L A h1
   have l:∀k ok,ops[k]? =some ok->k≠i->(d.setIfInBounds j true).getD k true=false->
    (∀e∈ok.after,Region.binds md e=true->e.on≠i)->n.apart ops ok=true:=fun k ok R F t K=>by
    refine g k ok R F ?_ K;by_cases C:j=k
    .subst C;exact q
    .rw[getD_set_ne true C]at t;exact t
   refine wpOp_mono (fun a' w' h3=>⟨h3.2.1,S (d.setIfInBounds j true) a' w' l (ready_mono m (fu f)) (YieldsIf.stayB h3.1 (h3.2.1 E)) ?_⟩) h2;rw[cC _ _ f];exact h3.2.2
def Ec(B:Nat)(P:Program)(ops:Array Oper)(Q:Exit->Act->World->Prop):List Nat->Nat->Array Bool->Act->World->Prop
 |[],m,listed,a,w=>qR B P .any ops Q ops.size m listed a w
 |i::rest,m,listed,a,w=>∃o v,ops[i]? =some o/\YieldsIf P ops (fun x=>Below B w x) o v a/\Ec B P ops Q rest m (listed.setIfInBounds i true) (a.put o.dst v) w
def CU(ops:Array Oper):List Nat->Array Bool->Bool
 |[],_=>true
 |i::rest,listed=>(Region.ready .any ops listed).contains i&&Region.free .any ops listed i&&CU ops rest (listed.setIfInBounds i true)
def vR(e:Region.noSelect ops=true)(g:∀c a o u w,Q (.panic c) (a.put o u) w->Q (.panic c) a w):
 ∀(d:List Nat)(m:Nat)(b:Array Bool)(a:Act)(w:World),CU ops d b=true->Ec B P ops Q d m b a w->qR B P .any ops Q ops.size (d.length+m) b a w
 |[],m,b,a,w,_,h=>by rw[cI,aV];exact h
 |i::d,m,b,a,w,hB,h=>by
  simp only[CU,am]at hB;obtain⟨⟨h1,h2⟩,h3⟩:=hB;obtain⟨o,v,j,k,h⟩:=h
  have h1:i∈Region.ready .any ops b:=by simpa using h1
  have f:=vR e g d m (b.setIfInBounds i true) (a.put o.dst v) w h3 h;rw[show(i::d).length+m=(d.length+m)+1 by rw[aH];omega];exact Gx j (Region.noSelect_spec e) (fun c a w=>g c a o.dst v w) _ _ _ w (Region.free_spec j h2) h1 k f
def jw{id:Nat}{a:Act}{w:World}(B:Nat)(d:List Nat)(m:Nat)
 (i:P.follows .mixedOrders=true)(f:ops.size=d.length+m)(b:Region.noSelect ops=true)(g:CU ops d (Array.replicate ops.size false)=true)
 (e:∀c a o u w,Q (.panic c) (a.put o u) w->Q (.panic c) a w)
 (h:Ec B P ops Q d m (Array.replicate ops.size false) a w.drew):(Code.region id ops true).wp P Q a w:=by
 have:=vR b e d m (Array.replicate ops.size false) a w.drew g h;rw[<- f]at this;exact wp_region_any i (tC _ _ _ _ this)
def jW{i m:Nat}{c:List Nat}{o:Oper}{v:Value}{b:Array Bool}{a:Act}{w:World}(hi:ops.toList[i]? =some o)
 (hw:Region.wanted o (yielded ops a.tmps)=true)(d:∀x,Below B w x->(execOp a.eval o).run P x=.ok (.value v) x)
 (h:Ec B P ops Q c m (b.setIfInBounds i true) (a.put o.dst v) w):Ec B P ops Q (i::c) m b a w:=
 ⟨o,v,by rw[<- bc];exact hi,VR ⟨hw,d⟩,h⟩
def mB{m:Nat}{b:Array Bool}{a:Act}{w:World}(h:qR B P .any ops Q ops.size m b a w):Ec B P ops Q [] m b a w:=h
def ia{n fuel i:Nat}{o:Oper}{b:Array Bool}{a:Act}{w:World}(h:∀K:Act->World->Prop,(∀a' w',Below B w w'->qR B P md ops Q n fuel (b.setIfInBounds i true) a' w'->K a' w')->o.wp P a w K Q)(d:Region.ready md ops b=[i]:=by kernel_rfl)(hi:ops.toList[i]? =some o:=by rfl)(hg:o.guard=none:=by rfl):qR B P md ops Q n (fuel+1) b a w:=by
 have hw:Region.wanted o (yielded ops a.tmps)=true:=by simp[Region.wanted,hg]
 rw[bc]at hi;refine⟨fun h0=>(by rw[d]at h0;cases h0),fun j c=>?_⟩;rw[d]at c
 obtain rfl:j=i:=by simpa using c
 unfold wpOp;simp only[hi,hw,bX];exact .inl (h _ fun a' w' h1 h2=>⟨fun _=>h1,h2⟩)
def CV{n fuel i j:Nat}{o c:Oper}{b:Array Bool}{a:Act}{w:World}(g:Region.ready md ops b=[i,j])(hi:ops.toList[i]? =some o)(f:ops.toList[j]? =some c)(p:o.guard=none)(e:c.guard=none)
 (h:∀K:Act->World->Prop,(∀a' w',Below B w w'->qR B P md ops Q n fuel (b.setIfInBounds i true) a' w'->K a' w')->o.wp P a w K Q)
 (m:∀K:Act->World->Prop,(∀a' w',Below B w w'->qR B P md ops Q n fuel (b.setIfInBounds j true) a' w'->K a' w')->c.wp P a w K Q):qR B P md ops Q n (fuel+1) b a w:=by
 have hw:Region.wanted o (yielded ops a.tmps)=true:=by simp[Region.wanted,p]
 have l:Region.wanted c (yielded ops a.tmps)=true:=by simp[Region.wanted,e]
 rw[bc]at hi f;refine⟨fun h0=>(by rw[g]at h0;cases h0),fun k d=>?_⟩;rw[g]at d;simp only[aS,bi,cR]at d
 obtain rfl|rfl:=d
 .unfold wpOp
  simp only[hi,hw,bX];exact .inl (h _ fun a' w' h1 h2=>⟨fun _=>h1,h2⟩)
 .unfold wpOp
  simp only[f,l,bX];exact .inl (m _ fun a' w' h1 h2=>⟨fun _=>h1,h2⟩)
def lH{n:Nat}{b:Array Bool}{a:Act}{w:World}(c:Region.ready md ops b=[])(h:Q .normal a w):qR B P md ops Q n 0 b a w:=⟨c,h⟩
end
def dl:Nat->Nat->List UInt8
 |0,_=>[]
 |m+1,u=>UInt8.ofNat (48+u%10)::dl m (u/10)
def Ca:∀(i u:Nat),(ip u).getD i 0=((u/1000000000^i%1000000000:Nat):Int)
 |i,u=>by
  by_cases a:u=0
  .subst a;rw[jP];simp
  .have b:0<u:=bq a
   rw[nU b]
   match i with
   |0=>simp
   |i+1=>
    rw[eA,Ca i (u/1000000000),eX,bM,cd]
def S6(i):(1000000000:Nat)^i=10^(9*i):=by
 rw[Nat.pow_mul]
def Dd(u):nDigits u<=9*(ip u).length\/u=0:=by
 obtain h|h:=cM u
 .exact VS h
 .left
  have:=sb u;rw[S6]at this
  exact mJ this (by
   obtain e|e:=cM (ip u).length
   .have:=jC.1 e;omega
   .omega)
def De(z:Int):List UInt8:=(if z<0 then[45]else[])++decDigits z.natAbs

def K7(b:UInt8):Bool:=b==32||b==9
def Dq:List UInt8->List UInt8->List (List UInt8)
 |w,[]=>if w=[]then[]else[w]
 |w,b::l=>if K7 b then(if w=[]then Dq [] l else w::Dq [] l)else Dq (w++[b]) l
def io:List UInt8->List UInt8->List (List UInt8)
 |w,[]=>[w]
 |w,b::l=>if b==10 then w::io [] l else io (w++[b]) l
def SO:ma 45=false:=by decide
def SP:ma 46=false:=by decide
def Ox(n d):wg (iz n d)*10^(d-(jf d (n.natAbs%10^d)).length)=n:=by
 have b:=cx n.natAbs (cy (by omega):0<10^d);have c:(decDigits (n.natAbs/10^d)).filter ma=decDigits (n.natAbs/10^d):=sF (sH (nn _));have e:(jf d (n.natAbs%10^d)).filter ma=jf d (n.natAbs%10^d):=sF (sH (oe d _ b))
 have hf:(oR n.natAbs d).filter ma=decDigits (n.natAbs/10^d)++jf d (n.natAbs%10^d):=by
  rw[uz,dO,c];split
  .rename_i h;rw[h];rfl
  .rw[dE,SP,aj (by simp),e]
 have a:(iz n d).filter ma=decDigits (n.natAbs/10^d)++jf d (n.natAbs%10^d):=by
  unfold iz;rw[dO,hf];split
  .rw[dE,SO];rfl
  .rfl
 have f:mX 0 ((iz n d).filter ma)*10^(d-(jf d (n.natAbs%10^d)).length)=n.natAbs:=by
  rw[a,qZ,tQ,sE,dB,vZ d _ b,ff,<- dm];rw[Nat.add_sub_cancel' (pG d _),cd,dc]
 have hi:((mX 0 ((iz n d).filter ma):Nat):Int)*10^(d-(jf d (n.natAbs%10^d)).length)=(n.natAbs:Int):=by
  exact_mod_cast f
 unfold wg;rw[rb];by_cases h:n<0
 .rw[aP h,aq rfl,Int.neg_mul,hi];omega
 .rw[aw h,aj (by simp),hi];omega
def DT(b:UInt8):Bool:=ma b||b==45||b==46
def CF(n d):iz n d≠[]/\ ∀b∈iz n d,DT b=true:=by
 have f:=cx n.natAbs (cy (by omega):0<10^d);constructor
 .intro e
  have:=rb n d;rw[e]at this;have h2:[]=oR n.natAbs d:=ai Prod.snd this;obtain⟨b,l,c,_⟩:=xT n.natAbs d;rw[c]at h2;cases h2
 .intro b a
  unfold iz at a;rw[uz,bj,bj]at a;unfold DT
  obtain a|a|a:=a
  .split at a
   .rw[aK]at a;subst a;decide
   .cases a
  .rw[nn _ b a];rfl
  .split at a
   .cases a
   .obtain rfl|a:=aS.1 a
    .decide
    .rw[oe d _ f b a];rfl
def Oy{b}(h:DT b=true):K7 b=false/\b≠10/\b≠35:=by
 unfold DT ma at h;simp only[dN,aD,dz]at h;refine⟨?_,?_,?_⟩
 .unfold K7
  rw[Bool.or_eq_false_iff,ak,ak];constructor
  .rintro rfl;revert h;decide
  .rintro rfl;revert h;decide
 .rintro rfl;revert h;decide
 .rintro rfl;revert h;decide
def RG(w:List UInt8):Prop:=w≠[]/\ ∀b∈w,K7 b=false/\b≠10/\b≠35
instance (w:List UInt8):Decidable (RG w):=inferInstanceAs (Decidable (w≠[]/\ ∀b∈w,K7 b=false/\b≠10/\b≠35))
def Jp(s:Bool)(zs:List Int)(q:Nat)(w:World)(v:Value)(wr:World):Prop:=
 ∃(k:Nat)(a:Option Addr)(b:Nat),v=.int .i64 k/\k<=q/\wr.ownsRow (w+2) 3 1 (.slice a k b) k ((zs.take k).map (Value.int .i64))/\
  wr.heap[w.heap.size]? =some (.cells #[false,oN] 221 (0,0))/\
  wr.heap[w.heap.size+1]? =some (.cells #[s,Z a k b] 221 (0,0))/\Below w w wr/\w.heap.size+2<=wr.heap.size
def Sp(w:World)(z:Int)(e:Ending)(w':World):Prop:=
 ∃s a n c,e=.returned (.agg #[.bool s,Z a n c])/\LG w' w' s a n c z/\Below w w w'/\kS w a n/\(n=0\/ ∃g,a=some ⟨g,0,none⟩/\vO w' g (ip z.natAbs))/\(a=none->c=0)
def EA{s}{zs:List Int}{q i d}{w wr:World}{z}(p:s=decide (z<0))(m:ip z.natAbs=zs.take q)(o:q<=600)(c:wr.ownsRow (w+2) 3 1 (.slice d q i) q ((zs.take q).map (Value.int .i64)))(n:Below w w wr):
 Sp w z (.returned (.agg #[s,Z d q i])) ((wr.setCell (J (w.heap.size)) (.bool s)).setCell ⟨w.heap.size,1,none⟩ (.slice d q i)):=by
 have l:=ur c
 have hf:kS (w+2) d q:=by
  rcases(mz c).2 with⟨e,h0⟩|⟨g,cap,e,k,f,a⟩
  .rw[h0];exact kS.zero _ _
  .injection e with e1 e2 e3
   rw[e1];exact kS.mk k _
 have j:∀b off,d=some ⟨b,off,none⟩->0<q->b≠w.heap.size:=fun b off e h0=>by have:=hf b off e h0;omega
 refine⟨s,d,q,i,rfl,⟨p,?_,o⟩,(n.setCell (aa _) _).setCell (aa _) _,hf.mono (by omega),?_,?_⟩;rotate_left
 .rcases(mz c).2 with⟨e,h0⟩|⟨g,cap,e,k,f,a⟩
  .exact VR h0
  .injection e with e1 e2 e3
   refine VS ⟨g,e1,?_⟩;rw[m];exact(a.other (J (w.heap.size)) (by simp;omega) _).other ⟨w.heap.size,1,none⟩ (by simp;omega) _
 .rcases(mz c).2 with⟨e,h0⟩|⟨g,cap,e,k,f,a⟩
  .injection e with e1 e2 e3
   exact fun _=>e3
  .injection e with e1 e2 e3
   intro h;rw[h]at e1;cases e1
 rw[m];have:=(l.setCell (J (w.heap.size)) (.bool s) j).setCell ⟨w.heap.size,1,none⟩ (.slice d q i) j;simpa using this
def pY{w w':World}{r}(h:w.drew.grownBy w' r):w.grownBy w' r:=⟨h.1,h.2,h.3,h.4,h.5⟩
def zz{zs:List Int}{j}(h:j<zs.length):zs.take j++[zs[j]?.getD 0]=zs.take (j+1):=by
 rw[eK,ae h];rfl
def vX(s:Bool)(zs z a n c)(w:World)(h:SL w w a n c zs)(hd:mv zs)(hn:n<=1000000)(hm:(ip (val zs).toNat).length<=600)(hz:z=if s then -val zs else val zs):
 Calls prog 177 #[s,Z a n c] w (Sp w z):=by
 have Hd:=O hd;have H:=O h;have b5:=h.cap;have Hz:=O hz;clear hd h hz;have L:=O H.len;go_enter func177,ntmps177;go_wp2_with fail
 go_loop [5] (fun v=>∃k:Nat,k<=n/\val (zs.take k)=val zs/\v=.int .i64 k) (fun v=>(intOf v).toNat)
 case atStart=>exact⟨n,aa _,by rw[H.len,bf],rfl⟩
 case round=>
  obtain⟨k,hk,ht,rfl⟩:=hrel;have Ht:=O ht;clear ht;by_cases h0:k=0
  .subst h0
   have hv:val zs=0:=by rw[<- Ht];rfl
   have a0:z=0:=by rw[Hz,hv];cases s<;>rfl
   have R:=O a0;clear a0 hv;cases s
   all_goals
    go_wp2_with fail
    go_loopw [7] (fun v wr=>Jp false zs 0 w v wr) (fun v _=>(0:Nat)-(intOf v).toNat)
    case atStart=>
     obtain⟨F,u⟩:=iN w (.cells #[false,oN] 221) (.cells #[false,oN] 221);exact⟨0,none,0,rfl,aa _,World.ownsRow_nil _ _ _ _,F,u,((TH _ _).alloc (aa _) _).alloc (by simp) _,by simp⟩
    case round=>
     obtain⟨k,A,B,rfl,b8,g,e,m,q,o⟩:=hrel
     obtain rfl:k=0:=by omega
     have C:wr.cell? (J (w.heap.size))=some (.bool false):=by simp[World.cell?,e]
     have D:wr.cell? ⟨w.heap.size,1,none⟩=some (.slice none 0 0):=by simp[World.cell?,e]
     have b3:wr.frozen? (J (w.heap.size))=false:=by simp[World.frozen?,e]
     have b4:wr.frozen? ⟨w.heap.size,1,none⟩=false:=by simp[World.frozen?,e]
     have a1:wr.cell? (J (w+1))=some (.bool false):=by simp[World.cell?,m]
     have a2:wr.cell? ⟨w.heap.size+1,1,none⟩=some (.slice A 0 B):=by simp[World.cell?,m]
     have f:=O g;clear g e m;go_wp2_with fail;refine ar (v:=.agg #[false,Z A 0 B]) ?_ rfl ?_
     .simp[results,results177,go_sem,C,D]
     .exact EA (by rw[R];rfl) (by rw[R];simp[jP]) (by omega) f q
  .obtain⟨k,rfl⟩:∃i,k=i+1:=⟨k-1,by omega⟩
   obtain⟨hl,_,ga⟩:=H;obtain⟨b,off,rfl,S,ca⟩:=ga (by omega);have T:=((TH w w).alloc (aa _) (.cells #[false,oN] 221)).cell (p:=⟨b,off+k,none⟩) S;have g1:=T.trans (ca k (by omega));have a6:=O ca;clear ca ga h0 hl T;by_cases t:zs.getD k 0=0
   .have M:=O t
    rw[t]at g1;clear t;cases s
    all_goals
     go_wp2
     go_round
     case rel=>exact⟨k,by omega,by rw[<- AY (by have:=L.out;omega) M,Ht],by go_num⟩
     case measure=>simp[intOf]
   .have M:=O t
    have b2:(zs.getD k 0==0)=false:=by simpa using t
    clear t;generalize N:zs.getD k 0=x at g1 b2;have Hx:=O N;clear N;have y:zs.take (k+1)=ip (val zs).toNat:=CT (n:=(val zs).toNat) Hd (by have:=L.out;omega) (VS (by simpa using M.out)) (by rw[Ht,cH (jU Hd)])
    have b1:0<val zs:=by
     have h1:=jU Hd
     obtain h2|h2:=Int.lt_or_eq_of_le h1
     .exact h2
     .rw[<- h2]at y
      have:=ai List.length y;rw[bn,show(0:Int).toNat=0 from rfl,jP,cD (by have:=L.out;omega)]at this;exact absurd this (by simp)
    have X:ip z.natAbs=zs.take (k+1):=by
     rw[y,Hz];congr 1;cases s<;>simp<;>omega
    have o:s=decide (z<0):=by
     rw[Hz];cases s<;>simp<;>omega
    have a3:k+1<=600:=by
     have:=ai List.length y;rw[bn,cD (by have:=L.out;omega)]at this;omega
    have b0:=O X;have a9:=O o;clear X o b1 y;cases s
    all_goals
     go_wp2_with fail
     go_loopw [7] (fun v wr=>Jp _ zs (k+1) w v wr) (fun v _=>(k+1:Nat)-(intOf v).toNat)
     case atStart=>
      obtain⟨F,u⟩:=iN w (.cells #[false,oN] 221) (.cells #[_,oN] 221);exact⟨0,none,0,rfl,aA _,World.ownsRow_nil _ _ _ _,F,u,((TH _ _).alloc (aa _) _).alloc (by simp) _,by simp⟩
     case round=>
      obtain⟨j,A,B,rfl,hj,g,e,m,q,o⟩:=hrel
      have a2:wr.cell? ⟨w.heap.size+1,1,none⟩=some (.slice A j B):=by simp[World.cell?,m]
      have f:=O g;by_cases W:j=k+1
      .subst W
       have C:wr.cell? (J (w.heap.size))=some (.bool false):=by simp[World.cell?,e]
       have D:wr.cell? ⟨w.heap.size,1,none⟩=some (.slice none 0 0):=by simp[World.cell?,e]
       have b3:wr.frozen? (J (w.heap.size))=false:=by simp[World.frozen?,e]
       have b4:wr.frozen? ⟨w.heap.size,1,none⟩=false:=by simp[World.frozen?,e]
       first
        |have a1:wr.cell? (J (w+1))=some (.bool false):=by simp[World.cell?,m];done
        |have a1:wr.cell? (J (w+1))=some (.bool true):=by simp[World.cell?,m];done
       clear g e m;go_wp2_with fail
       first
        |(refine ar (v:=.agg #[false,Z A (k+1) B]) ?_ rfl ?_; ·(simp[results,results177,go_sem,C,D];done))
        |(refine ar (v:=.agg #[true,Z A (k+1) B]) ?_ rfl ?_; ·(simp[results,results177,go_sem,C,D];done))
       exact EA a9 b0 (by omega) f q
      .have g2:=(q.cell (p:=⟨b,off+j,none⟩) S).trans (a6 j (by omega))
       have g3:j<k+1:=by omega
       have g4:j<n:=by omega
       have a4:=O e;have a5:=O m;clear g e m W;go_wp2_with fail;refine gS 7 [(0,true),(1,true),(2,true),(3,true),(4,true),(5,true),(6,false)] (by kernel_rfl) (by kernel_rfl) ?_
       iterate 6
        refine gU (v:=?_) ?_ ?_;rotate_left
        .intro x N
         have q1:=(N.cell (p:=⟨w.heap.size+1,1,none⟩) (by show w.heap.size+1<wr.heap.size;omega)).trans a2;have q2:=(N.cell (p:=⟨b,off+j,none⟩) (by show b<wr.heap.size;have:=q.size;omega)).trans g2;go_simp;rfl
        try simp only[V]
       refine gP (fun K hK=>?_);go_simp;refine hK _ _ ((TH _ _).alloc (aa _) _) ?_;clear hK K;(try simp only[V]);refine iu rfl ?_;refine ju rfl (.tmp 34) (.tmp 39) 162 rfl underlying162 (w+2) _ _ (zs.take j) rfl (f.alloc _) _ _ 1 1 [_] rfl (SL.one wr.drew _ _) (by simp) (by omega) (by simp;omega) ?_;intro v' w1 l r;rw[zz (by have:=L.out;omega)]at l;obtain⟨P,Q,rfl⟩:=kx l;have d:(wr.alloc (.cells #[.int .i64 (zs[j]?.getD 0)] 3)).grownBy w1 (Value.slice A j B).ownBlock:=pY r;have F:=(jI (base:=w.heap.size+2) f d (b:=w.heap.size) (by omega) o).trans a4;have u:=(jI (base:=w.heap.size+2) f d (b:=w.heap.size+1) (by omega) o).trans a5;have e3:=jF q f d (by omega) o;have e4:=d.size
       have b6:w1.cell? ⟨w.heap.size+1,1,none⟩=some (.slice A j B):=by simp[World.cell?,u]
       have b7:w1.frozen? ⟨w.heap.size+1,1,none⟩=false:=by simp[World.frozen?,u]
       have a7:=O F;have a8:=O u;have E:=O l;clear F u l r d;go_wp2
       go_roundw
       case rel=>
        refine⟨j+1,P,Q,by go_num,by omega,?_,gF a7 _ (by simp) _,?_,e3.setCell (by simp) _,?_⟩
        .have:=ownsRow_setCell_below E (a:=⟨w.heap.size+1,1,none⟩) (by simp) (.slice P (j+1) Q)
         simpa using this
        .have:=gG a8 1 (.slice P (j+1) Q)
         simpa using this
        .simp at e4⊢;omega
       case measure=>simp[intOf];omega
def nl(s:Bool)(zs z a n c)(w:World)(h:SL w w a n c zs)(b:mv zs)(f:n<=1000000)(d:(ip (val zs).toNat).length<=600)(g:z=if s then -val zs else val zs):
 Calls prog 177 #[s,Z a n c] w (tb w z):=
 (vX s zs z a n c w h b f d g).mono fun _ _ ⟨s,a,n,c,e,h1,h2,h3,_⟩=>⟨s,a,n,c,e,h1,h2,h3⟩
def Pr(w:World)(x y t):(w.alloc (.cells #[x,y] t)).cell? (J (w.heap.size))=some x/\(w.alloc (.cells #[x,y] t)).cell? ⟨w.heap.size,1,none⟩=some y:=by
 have h:=TL w (.cells #[x,y] t);exact⟨(gA h 0).trans rfl,(gA h 1).trans rfl⟩
def pF{w f:World}{s a n c B z}(h:LG f f s a n c z)(j:Below w w f)(hf:kS B a n)(d)(i:d<B)(hw:w.heap.size<=d)(u v):
 tb w z (.returned (.agg #[s,Z a n c])) ((f.setCell (J d) u).setCell ⟨d,1,none⟩ v):=by
 have g:∀b off,a=some ⟨b,off,none⟩->0<n->b≠d:=fun b off e h0=>by have:=hf b off e h0;omega
 refine⟨s,a,n,c,rfl,?_,(j.setCell hw _).setCell hw _,hf.mono (by omega)⟩;have:=(h.setCell (J d) u g).setCell ⟨d,1,none⟩ v g;simpa using this
def gQ{w:World}{b x y t}(h:w.heap[b]? =some (.cells #[x,y] t (0,0))):
 w.cell? (J b)=some x/\w.cell? ⟨b,1,none⟩=some y/\w.frozen? (J b)=false/\w.frozen? ⟨b,1,none⟩=false:=by
 refine⟨?_,?_,?_,?_⟩ <;>simp[World.cell?,World.frozen?,h]
def QP(n:Nat)(w:World)(q d:Value)(wr:World):Prop:=
 ∃(k:Nat)(a:Option Addr)(b:Nat)(zs:List Int),q=.int .i64 (k:Int)/\d=.slice a zs.length b/\(k:Int)<=9223372036854775807/\ip n=zs++ip k/\
  wr.ownsRow (w+1) 3 1 (.slice a zs.length b) zs.length (zs.map (Value.int .i64))/\
  wr.heap[w.heap.size]? =some (.cells #[false,oN] 221 (0,0))/\Below w w wr/\w.heap.size+1<=wr.heap.size
def Ku(n:Nat)(w)(hn:(n:Int)<=9223372036854775807):
 Calls prog 130 #[.int .i64 (n:Int)] w (tb w n):=by
 have j:=nu n (by omega) (by omega);rw[aB]at j;have i:=O j;clear j
 have a6:¬(n:Int) <0:=by omega
 go_enter func130,ntmps130;go_wp2_with fail
 go_loopw [0,3] (fun q d wr=>QP n w q d wr) (fun q _ _=>(intOf q).toNat)
 case atStart=>exact⟨n,none,0,[],rfl,rfl,hn,by simp,World.ownsRow_nil _ _ _ _,TL _ _,(TH _ _).alloc (aa _) _,by simp⟩
 case round=>
  obtain⟨k,va,vc,zs,rfl,rfl,b0,R,r,z,u,E⟩:=hrel;have F:=O R;have h:=O r;have y:=O z;clear R r z;by_cases x:k=0
  .subst x
   obtain⟨a0,a1,a2,a3⟩:=gQ y
   have o:ip n=zs:=by have:=F.out;simpa[jP]using this
   have D:=ur h;have M:=O D;clear D;go_wp2_with fail;refine(nl false zs n _ _ _ _ M (by rw[<- o];exact iU n) (by rw[<- o];have:=i.out;omega) (by rw[<- o,iY,aI];have:=i.out;omega) (by rw[<- o];simp[iY])).mono ?_;rintro e w1 ⟨s,a,m,c,rfl,C,l,hf⟩;have N:=(l.cell (p:=J (w.heap.size)) (by show w.heap.size<wr.heap.size;omega)).trans a0;have P:=(l.cell (p:=⟨w.heap.size,1,none⟩) (by show w.heap.size<wr.heap.size;omega)).trans a1;have a8:=(l.frozen (p:=J (w.heap.size)) (by show w.heap.size<wr.heap.size;omega)).trans a2;have a9:=(l.frozen (p:=⟨w.heap.size,1,none⟩) (by show w.heap.size<wr.heap.size;omega)).trans a3;have L:=O C;have Hf:=O hf;clear C hf o;go_wp2_with fail;refine ar (v:=.agg #[s,Z a m c]) ?_ rfl ?_
   .simp[results,results130,go_sem,N,P]
   .exact pF L (u.trans (l.mono u.size)) Hf w (by omega) (aa _) _ _
  .have hb:((k:Int) !=0)=true:=by simpa using x
   have B:0<k:=by omega
   have A:=F.out
   have b1:zs.length<=3:=by have:=i.out;rw[A,al]at this;omega
   have X:ip k=[(k:Int)%1000000000]++ip ((k:Int)/1000000000).toNat:=by
    rw[nU B,show((k%1000000000:Nat):Int)=(k:Int)%1000000000 by omega,show k/1000000000=((k:Int)/1000000000).toNat by omega];rfl
   have Hx:=O X;clear X
   have a7:0<(k:Int):=by omega
   have S:((k:Int)/1000000000).toNat<k:=by omega
   have T:0<=(k:Int)/1000000000:=by omega
   have W:(k:Int)/1000000000<=9223372036854775807:=by omega
   have Hm:=O S;clear S;clear A x B;generalize hK:(k:Int)=K at*;have HK:=O hK;clear hK
   go_wp2_with(refine ju rfl (.tmp 16) (.tmp 18) 162 rfl underlying162 (w+1) _ _ zs rfl (h.alloc _) _ _ 1 1 [_] rfl (SL.one wr _ _) (by simp) (by omega) (by simp;omega) ?_)
   intro v' w1 g f;obtain⟨a4,a5,rfl⟩:=kx g;have Q:=(jI (base:=w.heap.size+1) h f (b:=w.heap.size) (by omega) E).trans y;have e3:=jF u h f (by omega) E;have e4:=f.size;have H:=O Q;have t:=O g;clear Q g f;go_wp2
   go_roundw
   case rel=>
    refine⟨(K/1000000000).toNat,a4,a5,zs++[K%1000000000],by rw[cH T],by simp,by rw[cH T];exact W,by rw[F,Hx,aC],?_,H,e3,?_⟩
    .simpa using t.out
    .simp at e4⊢;omega
   case measure=>
    have:=Hm.out;simp[intOf];omega
def Kv(zs a)(n c i:Nat)(w:World)(h:SL w w a n c zs)(l:n<=1000000)(hi:i<=1000000):
 Calls prog 253 #[Z a n c,.int .i64 (i:Int)] w (fun e w'=>e=.returned (.int .i64 (zs.getD i 0))/\w=w'):=by
 have g:=h.len;by_cases f:i<n
 .obtain⟨b,off,rfl,k,d⟩:=h.at (by omega)
  have j:=d i f;clear d h g;go_enter func253,ntmps253;go_wp2;go_ret;exact⟨rfl,rfl⟩
 .have e:zs.getD i 0=0:=by rw[ah,bz (by omega)];rfl
  rw[e];clear e h g;go_enter func253,ntmps253;go_wp2;go_ret;exact⟨rfl,rfl⟩
def ux(zs a n c i z)(w:World)(h:SL w w a n c zs)(b:n<=1000000)(hi:i<=1000000)(d:zs.getD i 0=z):
 Calls prog 253 #[Z a n c,.int .i64 (i:Int)] w (fun e w'=>e=.returned (.int .i64 z)/\w=w'):=by
 subst d;exact Kv zs a n c i w h b hi
def SC(K:Act->World->Prop)(Q:Exit->Act->World->Prop):Exit->Act->World->Prop
 | .normal=>K
 |e=>Q e
section
variable{P:Program}{ops:Array Oper}{Q:Exit->Act->World->Prop}{md:Region.Mode}{B:Nat}
def Nr(o:Oper)(a:Act)(K:Act->World->Prop)(r:Result Next)(h:o.upon P a K (SC K Q) r):o.upon P a K Q r:=by
 match r with
 | .ok (.value v) w'=>exact h
 | .ok .skip w'=>exact h
 | .ok (.defer d) w'=>exact h
 | .ok (.enter f args) w'=>exact Calls.mono (by exact h) (fun e w' b=>by cases e<;>exact b)
 | .ok (.row row args) w'=>exact h
 | .halt (.panic v) w'=>exact h
def vw{o:Oper}{a:Act}{w:World}{K:Act->World->Prop}(b:o.guard=none)(h:wpList P ops (SC K Q) [o] a w):o.wp P a w K Q\/(o.asks P a w/\LetsOut Q):=by
 have hw:Region.wanted o (yielded ops a.tmps)=true:=by simp[Region.wanted,b]
 unfold wpList at h;rw[aq hw]at h
 obtain h|h:=h
 .exact VR (Nr o a K _ h)
 .exact VS h
def mm{n fuel i:Nat}{o:Oper}{b:Array Bool}{a:Act}{w:World}(h:∀K:Act->World->Prop,(∀a' w',Below B w w'->qR B P md ops Q n fuel (b.setIfInBounds i true) a' w'->K a' w')->wpList P ops (SC K Q) [o] a w)(d:Region.ready md ops b=[i]:=by kernel_rfl)(hi:ops.toList[i]? =some o:=by rfl)(hg:o.guard=none:=by rfl):qR B P md ops Q n (fuel+1) b a w:=by
 have hw:Region.wanted o (yielded ops a.tmps)=true:=by simp[Region.wanted,hg]
 rw[bc]at hi;refine⟨fun h0=>(by rw[d]at h0;cases h0),fun j c=>?_⟩;rw[d]at c
 obtain rfl:j=i:=by simpa using c
 unfold wpOp;simp only[hi,hw,bX];exact vw hg (h _ fun a' w' h1 h2=>⟨fun _=>h1,h2⟩)
def Fb{n fuel i j:Nat}{o c:Oper}{b:Array Bool}{a:Act}{w:World}(l:Region.ready md ops b=[i,j])(hi:ops.toList[i]? =some o)(g:ops.toList[j]? =some c)(f:o.guard=none)(d:c.guard=none)
 (h:∀K:Act->World->Prop,(∀a' w',Below B w w'->qR B P md ops Q n fuel (b.setIfInBounds i true) a' w'->K a' w')->wpList P ops (SC K Q) [o] a w)
 (p:∀K:Act->World->Prop,(∀a' w',Below B w w'->qR B P md ops Q n fuel (b.setIfInBounds j true) a' w'->K a' w')->wpList P ops (SC K Q) [c] a w):qR B P md ops Q n (fuel+1) b a w:=by
 have hw:Region.wanted o (yielded ops a.tmps)=true:=by simp[Region.wanted,f]
 have m:Region.wanted c (yielded ops a.tmps)=true:=by simp[Region.wanted,d]
 rw[bc]at hi g;refine⟨fun h0=>(by rw[l]at h0;cases h0),fun k e=>?_⟩;rw[l]at e;simp only[aS,bi,cR]at e
 obtain rfl|rfl:=e
 .unfold wpOp
  simp only[hi,hw,bX];exact vw f (h _ fun a' w' h1 h2=>⟨fun _=>h1,h2⟩)
 .unfold wpOp
  simp only[g,m,bX];exact vw d (p _ fun a' w' h1 h2=>⟨fun _=>h1,h2⟩)
def qG{b:List Oper}{o:Oper}{a:Act}{w:World}(e:o.guard=none)(v:Value)(d:Obj)(c:(execOp a.eval o).run P w=.ok (.value v) (w.alloc d))(h:wpList P ops Q b (a.put o.dst v) (w.alloc d)):wpList P ops Q (o::b) a w:=by
 have hw:Region.wanted o (yielded ops a.tmps)=true:=by simp[Region.wanted,e]
 unfold wpList;rw[aq hw];refine VR ?_;unfold Oper.wp;rw[c];exact h
end
section
variable{P:Program}
def Ed:laidOutB prog=true:=by kernel_rfl
def uT{H}{enc:TypeId×Value->H}{W W':World}(g:Below W W W'):
 ∀(a:List TypeId)(e:List Value)(ds:List (DataW H))(c:List MemPlace),(∀t∈a,prog.readableRec t=true/\t<prog.types.size)->DataW.TrodAll enc prog W 0 (fun _=>true) true a e ds c->
  DataW.TrodAll enc prog W' 0 (fun b=>decide (b<W.heap.size)) true a e ds c
 |[],e,ds,c,_,h=>by
  obtain⟨rfl,rfl,rfl⟩:=trodAll_nil h;exact trodAll_mk0
 |t::a,e,ds,c,hr,h=>by
  obtain⟨v,i,d,f,p,q,rfl,rfl,rfl,h0,h1⟩:=trodAll_cons h;refine trodAll_cons_mk (Below.trod Ed (hr t (by simp)).1 (hr t (by simp)).2 h0 g ?_) (uT g a i f q (fun u k=>hr u (by simp[k])) h1);obtain⟨m,j⟩:=h0;exact DataW.trod_lt m _ _ _ j
def QF{a:List TypeId}(h:a.all (fun t=>P.readableRec t&&decide (t<P.types.size))=true):∀t∈a,P.readableRec t=true/\t<P.types.size:=by
 intro t b;have:=an.1 h t b;simpa using this
def Gy{t:TypeId}{k:IntKind}{W:World}{base:Nat}{v:Value}(a:P.underlying t=some (.int k))(h:Cell.okWide P W .any base t v):
 ∃n,v=.int k n/\k.has n:=by
 unfold Cell.okWide at h;rw[a]at h;unfold Cell.ok at h;rw[a]at h;cases v<;>simp_all
def Gz{t e:TypeId}{k:IntKind}{n:Nat}{W:World}{base:Nat}{v:Value}(A:P.underlying t=some (.array n e))(g:P.cellsOf t=n)
 (o:P.cellTypes P.depth t=some (List.replicate n e))(r:P.underlying e=some (.int k))(h:Value.okWide P W .any base t v):
 ∃zs:List Int,v=.agg (zs.map (Value.int k)).toArray/\zs.length=n/\ ∀z∈zs,k.has z:=by
 unfold Value.okWide at h;rw[A]at h;obtain⟨cs,rfl,q,D,c,-,m⟩:=h;rw[o]at c
 obtain rfl:List.replicate n e=D:=by simpa using c
 have key:∀l:List Value,(∀x∈l,∃z,x=.int k z/\k.has z)-> ∃zs:List Int,l=zs.map (Value.int k)/\zs.length=l.length/\ ∀z∈zs,k.has z:=by
  intro l
  induction l with
  |nil=>exact fun _=>⟨[],rfl,rfl,fun z f=>by simp at f⟩
  |cons x l C=>
   intro p;obtain⟨z,rfl,f⟩:=p x (by simp);obtain⟨zs,rfl,h2,h3⟩:=C (fun y a=>p y (by simp[a]))
   exact⟨z::zs,rfl,by simp,fun y a=>by
    simp at a
    obtain rfl|a:=a
    .exact f
    .exact h3 y a⟩
 obtain⟨zs,h1,h2,h3⟩:=key cs.toList (fun x B=>by
  obtain⟨i,hi,rfl⟩:=dJ B
  have b:i<cs.size:=by simpa using hi
  obtain⟨u,d,j⟩:=m i cs.toList[i] (by simp)
  have w:n≠0:=by
   rw[q,g]at b;exact Nat.ne_of_gt (cX (aA _) b)
  have s:i%n<n:=cx _ (bq w);rw[dr,eR,aq s]at d;simp at d;subst d
  exact Gy r j)
 refine⟨zs,?_,by rw[h2];simp[q,g],h3⟩;rw[<- h1]
end
structure gW where
 kind:Int
 curv:Int
 conic:Int
 t6:Int
 t7:Int
 a0:Int
 a1:Int
 a2:Int
 a3:Int
 p0:Int
 p1:Int
 order:Int
 t8:Int
 i7:ByteArray
 r9:Int
 p8:Int
 dx:Int
 dy:Int
 ax:Int
 ay:Int
 az:Int
 deriving DecidableEq
def IR(N:Nat)(w:World)(k:Nat)(a:Option Addr)(n c:Nat)(zs:List Int):Prop:=
 zs.length=n*k/\n<=c/\(0<n-> ∃b off,a=some ⟨b,off,none⟩/\b<N/\ ∀j,j<n*k->w.cell? ⟨b,off+j,none⟩=some (.int .i64 (zs.getD j 0)))
def IR.below{N M w w' k a n c zs}(h:IR N w k a n c zs)(f:Below M w w')(d:N<=M):IR N w' k a n c zs:=
 ⟨h.1,h.2.1,fun i=>let⟨b,off,e,hlt,hc⟩:=h.2.2 i;⟨b,off,e,hlt,fun j g=>(f.cell (p:=⟨b,off+j,none⟩) (ab hlt d)).trans (hc j g)⟩⟩
def IR.mono{N M w k a n c zs}(h:IR N w k a n c zs)(d:N<=M):IR M w k a n c zs:=
 ⟨h.1,h.2.1,fun f=>let⟨b,off,e,hlt,hc⟩:=h.2.2 f;⟨b,off,e,ab hlt d,hc⟩⟩
def IR.go{w w':World}{k a n c zs}(h:IR w w k a n c zs)(b:Below w w w'):IR w' w' k a n c zs:=
 (h.below b (aa _)).mono b.size
def IR.nil(N w k a c):IR N w k a 0 c []:=⟨by simp,aA _,fun h=>absurd h (by omega)⟩
def Y(w:World)(g:Nat)(s:gW)(a:Option Addr)(n c:Nat):Prop:=w.heap[g]? =some (.cells #[s.kind,s.curv,s.conic,s.t6,s.t7,s.a0,s.a1,s.a2,s.a3,s.p0,s.p1,s.order,s.t8,s.i7,s.r9,s.p8,s.dx,s.dy,s.ax,s.ay,s.az,Z a n c] 70 (0,0))
def Y.lt{w g s a n c}(h:Y w g s a n c):g<w.heap.size:=TK h
def Y.go{w w' g s a n c B}(h:Y w g s a n c)(b:Below B w w')(d:g<B):Y w' g s a n c:=(b.block g d).trans h
def Y.new(w:World)(s a n c):Y (w.alloc (.cells #[s.kind,s.curv,s.conic,s.t6,s.t7,s.a0,s.a1,s.a2,s.a3,s.p0,s.p1,s.order,s.t8,s.i7,s.r9,s.p8,s.dx,s.dy,s.ax,s.ay,s.az,Z a n c] 70)) w s a n c:=TL w _
def Y.cells{w g s a n c}(h:Y w g s a n c):
 w.cell? (J g)=some (.int .i64 s.kind)/\w.cell? ⟨g,1,none⟩=some (.int .i64 s.curv)/\w.cell? ⟨g,2,none⟩=some (.int .i64 s.conic)/\w.cell? ⟨g,3,none⟩=some (.int .i64 s.t6)/\w.cell? ⟨g,4,none⟩=some (.int .i64 s.t7)/\
 w.cell? ⟨g,5,none⟩=some (.int .i64 s.a0)/\w.cell? ⟨g,6,none⟩=some (.int .i64 s.a1)/\w.cell? ⟨g,7,none⟩=some (.int .i64 s.a2)/\w.cell? ⟨g,8,none⟩=some (.int .i64 s.a3)/\w.cell? ⟨g,9,none⟩=some (.int .i64 s.p0)/\w.cell? ⟨g,10,none⟩=some (.int .i64 s.p1)/\
 w.cell? ⟨g,11,none⟩=some (.int .i64 s.order)/\w.cell? ⟨g,12,none⟩=some (.int .i64 s.t8)/\w.cell? ⟨g,13,none⟩=some (.string s.i7)/\w.cell? ⟨g,14,none⟩=some (.int .i64 s.r9)/\w.cell? ⟨g,15,none⟩=some (.int .i64 s.p8)/\
 w.cell? ⟨g,16,none⟩=some (.int .i64 s.dx)/\w.cell? ⟨g,17,none⟩=some (.int .i64 s.dy)/\w.cell? ⟨g,18,none⟩=some (.int .i64 s.ax)/\w.cell? ⟨g,19,none⟩=some (.int .i64 s.ay)/\w.cell? ⟨g,20,none⟩=some (.int .i64 s.az)/\w.cell? ⟨g,21,none⟩=some (.slice a n c):=by
 unfold Y at h;refine⟨?_,?_,?_,?_,?_,?_,?_,?_,?_,?_,?_,?_,?_,?_,?_,?_,?_,?_,?_,?_,?_,?_⟩ <;>simp[World.cell?,h]
def Y.free{w g s a n c}(h:Y w g s a n c)(k):w.frozen? ⟨g,k,none⟩=false:=by
 unfold Y at h;simp[World.frozen?,h]
def I{w A w':World}(h1:Below w w A)(h2:Below A A w'):Below w w w':=h1.trans (h2.mono h1.size)
def gY{w A:World}{o}(h:Below w w A):Below w w (A.alloc o):=h.alloc h.size _
def jA{w A:World}(h:Below w w A):Below w w A.drew:=⟨h.os,h.tape,h.output,h.size,h.block⟩
def qo{w A:World}{p v}(h:Below w w A)(a:w.heap.size<=p.block):Below w w (A.setCell p v):=h.setCell a _
def BB(w:World)(o p q):(((w.alloc o).alloc p).alloc q).heap[w.heap.size]? =some o/\(((w.alloc o).alloc p).alloc q).heap[w.heap.size+1]? =some p/\(((w.alloc o).alloc p).alloc q).heap[w.heap.size+2]? =some q:=by
 obtain⟨a,b⟩:=iN w o p;refine⟨?_,?_,?_⟩
 .rw[TJ _ _ _ (by simp<;>omega)];exact a
 .rw[TJ _ _ _ (by simp)];exact b
 .have:=TL ((w.alloc o).alloc p) q
  simpa using this
def wU(w:World)(o p q):Below w w (((w.alloc o).alloc p).alloc q):=gY (gY (gY (TH _ _)))
def gI{P}{c:Code}{Q:Exit->Act->World->Prop}{a w}(F:World->Prop)(b:F w)(h:∀w',F w'->c.wp P Q a w'):c.wp P Q a w:=h w b
def jJ{P ops l}{Q:Exit->Act->World->Prop}{a w}(F:World->Prop)(b:F w)(h:∀w',F w'->wpList P ops Q l a w'):wpList P ops Q l a w:=h w b
def vS(w:World)(g:Nat)(s:gW)(a:Option Addr)(n c:Nat):World:=((((((((((((((((((((((w.setCell (J g) (.int .i64 s.kind)).setCell ⟨g,1,none⟩ (.int .i64 s.curv)).setCell ⟨g,2,none⟩ (.int .i64 s.conic)).setCell ⟨g,3,none⟩ (.int .i64 s.t6)).setCell ⟨g,4,none⟩ (.int .i64 s.t7)).setCell ⟨g,5,none⟩ (.int .i64 s.a0)).setCell ⟨g,6,none⟩ (.int .i64 s.a1)).setCell ⟨g,7,none⟩ (.int .i64 s.a2)).setCell ⟨g,8,none⟩ (.int .i64 s.a3)).setCell ⟨g,9,none⟩ (.int .i64 s.p0)).setCell ⟨g,10,none⟩ (.int .i64 s.p1)).setCell ⟨g,11,none⟩ (.int .i64 s.order)).setCell ⟨g,12,none⟩ (.int .i64 s.t8)).setCell ⟨g,13,none⟩ (.string s.i7)).setCell ⟨g,14,none⟩ (.int .i64 s.r9)).setCell ⟨g,15,none⟩ (.int .i64 s.p8)).setCell ⟨g,16,none⟩ (.int .i64 s.dx)).setCell ⟨g,17,none⟩ (.int .i64 s.dy)).setCell ⟨g,18,none⟩ (.int .i64 s.ax)).setCell ⟨g,19,none⟩ (.int .i64 s.ay)).setCell ⟨g,20,none⟩ (.int .i64 s.az)).setCell ⟨g,21,none⟩ (.slice a n c))
def Y.stored{w g cs}(h:w.heap[g]? =some (.cells cs 70 (0,0)))(b:cs.size=22)(s a n c):Y (vS w g s a n c) g s a n c:=by
 obtain⟨l,rfl⟩:∃l:List Value,cs=l.toArray:=⟨cs.toList,by simp⟩
 have b:l.length=22:=by simpa using b
 match l,b with
 |[x0,x1,x2,x3,x4,x5,x6,x7,x8,x9,x10,x11,x12,x13,x14,x15,x16,x17,x18,x19,x20,x21],_=>
  have k:=(gG (gG (gG (gG (gG (gG (gG (gG (gG (gG (gG (gG (gG (gG (gG (gG (gG (gG (gG (gG (gG (gG h 0 (.int .i64 s.kind)) 1 (.int .i64 s.curv)) 2 (.int .i64 s.conic)) 3 (.int .i64 s.t6)) 4 (.int .i64 s.t7)) 5 (.int .i64 s.a0)) 6 (.int .i64 s.a1)) 7 (.int .i64 s.a2)) 8 (.int .i64 s.a3)) 9 (.int .i64 s.p0)) 10 (.int .i64 s.p1)) 11 (.int .i64 s.order)) 12 (.int .i64 s.t8)) 13 (.string s.i7)) 14 (.int .i64 s.r9)) 15 (.int .i64 s.p8)) 16 (.int .i64 s.dx)) 17 (.int .i64 s.dy)) 18 (.int .i64 s.ax)) 19 (.int .i64 s.ay)) 20 (.int .i64 s.az)) 21 (.slice a n c));simp only[bK,aZ,aW]at k;exact k
def vS.other{w g d o}(h:w.heap[d]? =some o)(b:g≠d)(s a n c):(vS w g s a n c).heap[d]? =some o:=by
 unfold vS;exact(gF (gF (gF (gF (gF (gF (gF (gF (gF (gF (gF (gF (gF (gF (gF (gF (gF (gF (gF (gF (gF (gF h (J g) b _) ⟨g,1,none⟩ b _) ⟨g,2,none⟩ b _) ⟨g,3,none⟩ b _) ⟨g,4,none⟩ b _) ⟨g,5,none⟩ b _) ⟨g,6,none⟩ b _) ⟨g,7,none⟩ b _) ⟨g,8,none⟩ b _) ⟨g,9,none⟩ b _) ⟨g,10,none⟩ b _) ⟨g,11,none⟩ b _) ⟨g,12,none⟩ b _) ⟨g,13,none⟩ b _) ⟨g,14,none⟩ b _) ⟨g,15,none⟩ b _) ⟨g,16,none⟩ b _) ⟨g,17,none⟩ b _) ⟨g,18,none⟩ b _) ⟨g,19,none⟩ b _) ⟨g,20,none⟩ b _) ⟨g,21,none⟩ b _)
def Below.put22{B w w' g}(h:Below B w w')(b:B<=g)(s a n c):Below B w (vS w' g s a n c):=by
 unfold vS;exact((((((((((((((((((((((h.setCell b _).setCell b _).setCell b _).setCell b _).setCell b _).setCell b _).setCell b _).setCell b _).setCell b _).setCell b _).setCell b _).setCell b _).setCell b _).setCell b _).setCell b _).setCell b _).setCell b _).setCell b _).setCell b _).setCell b _).setCell b _).setCell b _)
def Y.range{w g s a n c}(h:Y w g s a n c):w.rangeAt g 0 [s.kind,s.curv,s.conic,s.t6,s.t7,s.a0,s.a1,s.a2,s.a3,s.p0,s.p1,s.order,s.t8,s.i7,s.r9,s.p8,s.dx,s.dy,s.ax,s.ay,s.az,Z a n c]:=by
 intro j v b;unfold Y at h;simp only[World.cell?,h,aV];simpa using b
def Tryz.infoSurf:(prog.info? 70).map (·.size)=some 22:=by kernel_rfl
def gO{ops b d e w}{Q:Exit->Act->World->Prop}{g s a n c}(h:Y w g s a n c)(f:d.guard=none)(x)(j:d.op=.load 70 x)(k:e.eval x=.pointer (J g))(i:wpList prog ops Q b (e.put d.dst (.agg #[s.kind,s.curv,s.conic,s.t6,s.t7,s.a0,s.a1,s.a2,s.a3,s.p0,s.p1,s.order,s.t8,s.i7,s.r9,s.p8,s.dx,s.dy,s.ax,s.ay,s.az,Z a n c])) w):wpList prog ops Q (d::b) e w:=
 wpList_load_mid f 70 x j g 0 k [s.kind,s.curv,s.conic,s.t6,s.t7,s.a0,s.a1,s.a2,s.a3,s.p0,s.p1,s.order,s.t8,s.i7,s.r9,s.p8,s.dx,s.dy,s.ax,s.ay,s.az,Z a n c] _ h.range underlying70 rfl Tryz.infoSurf i
def hE{ops b e d w}{Q:Exit->Act->World->Prop}{g cs}(s a n c)(h:w.heap[g]? =some (.cells cs 70 (0,0)))(k:cs.size=22)(i:e.guard=none)(x y)(m:e.op=.store 70 x y)(o:d.eval x=.pointer (J g))(p:d.eval y=.agg #[s.kind,s.curv,s.conic,s.t6,s.t7,s.a0,s.a1,s.a2,s.a3,s.p0,s.p1,s.order,s.t8,s.i7,s.r9,s.p8,s.dx,s.dy,s.ax,s.ay,s.az,Z a n c])(l:wpList prog ops Q b (d.put e.dst undef) (vS w g s a n c)):wpList prog ops Q (e::b) d w:=
 wpList_store_mid i 70 x y m g 0 _ o p (fun j f=>by
  have f:j<22:=f
  simp[World.cell?,World.frozen?,h,k,f]) Tryz.infoSurf (by simp[Value.oneCell']) l
def lu{fn p tmps w g s a n c}(h:fn.results=#[.cell p 70])(b:tmps.getD p undef=.pointer (J g))(d:Y w g s a n c):
 (results fn tmps).run prog w=.ok (.agg #[s.kind,s.curv,s.conic,s.t6,s.t7,s.a0,s.a1,s.a2,s.a3,s.p0,s.p1,s.order,s.t8,s.i7,s.r9,s.p8,s.dx,s.dy,s.ax,s.ay,s.az,Z a n c]) w:=
 results_cell_row h tmps w g 70 _ (0,0) _ b d underlying70 rfl Tryz.infoSurf
def lY{fn p u tmps w g s a n c v}(h:fn.results=#[.cell p 70,.tmp u])(b:tmps.getD p undef=.pointer (J g))(e:tmps.getD u undef=v)(d:Y w g s a n c):
 (results fn tmps).run prog w=.ok (.tuple #[.agg #[s.kind,s.curv,s.conic,s.t6,s.t7,s.a0,s.a1,s.a2,s.a3,s.p0,s.p1,s.order,s.t8,s.i7,s.r9,s.p8,s.dx,s.dy,s.ax,s.ay,s.az,Z a n c],v]) w:=by
 rw[results_cell_tmp h,b,e];simp only[asAddr,cT,bU];rw[run_loadVar_row w g 70 70 _ (0,0) _ d underlying70 rfl Tryz.infoSurf];rfl
structure jt where
 (s:gW) (a:Option Addr) (n c:Nat)
instance {s:gW} {a:Option Addr} {n c:Nat}:CoeDep jt ⟨s,a,n,c⟩ (Array Value):=⟨#[.int .i64 s.kind,.int .i64 s.curv,.int .i64 s.conic,.int .i64 s.t6,.int .i64 s.t7,.int .i64 s.a0,.int .i64 s.a1,.int .i64 s.a2,.int .i64 s.a3,.int .i64 s.p0,.int .i64 s.p1,.int .i64 s.order,.int .i64 s.t8,.string s.i7,.int .i64 s.r9,.int .i64 s.p8,.int .i64 s.dx,.int .i64 s.dy,.int .i64 s.ax,.int .i64 s.ay,.int .i64 s.az,.slice a n c]⟩
def MU(a b n m c d w)(e:n≠m):
 Calls prog 237 #[Z a n c,Z b m d] w (QE w (.bool (decide ((n:Int)-m<0)))):=by
 have h1:((n:Int) !=m)=true:=by simp;omega
 clear e;go_enter func237,ntmps237;go_wp2;go_ret;refine⟨?_,0,rfl⟩
 show Ending.returned (.bool (decide (n<m)))=_
 have h2:decide (n<m)=decide ((n:Int)-m<0):=by rw[dj];omega
 rw[h2]
def Kw(xs ys a b n c d)(w:World)(u:SL w w a n c xs)(z:SL w w b n d ys)(W:n<=1000000000)(B:mv xs)(C:mv ys):
 Calls prog 237 #[Z a n c,Z b n d] w (QE w (.bool (decide (qS xs ys n<0)))):=by
 have D:=O u;have E:=O z;clear u z;have F:=O B;have H:=O C;clear B C;generalize hR:decide (qS xs ys n<0)=R;have m:=O hR;clear hR;go_enter func237,ntmps237;go_wp2
 go_loopw [5] (fun v wr=>∃k j:Nat,k<=n/\v=.int .i64 ((k:Int)-1)/\qS xs ys n=qS xs ys k/\wr=w.drewN j) (fun v _=>(intOf v+1).toNat)
 case atStart=>exact⟨n,0,aa _,by go_num,rfl,rfl⟩
 case round=>
  obtain⟨k,j,T,rfl,A,rfl⟩:=hrel;have l:=O A;clear A;by_cases h0:k=0
  .subst h0
   have t:R=false:=by rw[<- m,l];rfl
   subst t;go_wp2;go_ret;exact⟨rfl,_,rfl⟩
  .obtain⟨k,rfl⟩:∃i,k=i+1:=⟨k-1,by omega⟩
   obtain⟨_,_,r⟩:=D;obtain⟨M,X,rfl,_,p⟩:=r (by omega);obtain⟨_,_,s⟩:=E;obtain⟨N,ob,rfl,_,q⟩:=s (by omega);have P:=p k (by omega);have Q:=q k (by omega)
   have g2:(((k+1:Nat):Int)-1)=(k:Int):=by omega
   rw[g2]
   have S:(k:Int) <n:=by omega
   have K:=F.all k;have L:=H.all k;clear g2 p q r s h0;generalize hxx:xs.getD k 0=x at*;generalize hyy:ys.getD k 0=y at*;have g:=O hxx;have h:=O hyy;clear hxx hyy;go_wp2
   go_quiet (fail)
   go_wp2
   .go_quiet (fail)
    go_wp2;go_ret
    have e:(x !=y)=true:=by assumption
    refine⟨?_,by simp only[World.drewN_drewN];exact⟨_,rfl⟩⟩
    show Ending.returned (.bool (decide (x<y)))=_
    rw[<- m,l];simp only[qS,g.out,h.out];rw[aj (by simpa using e)];congr 2;rw[dj];omega
   .have e:(x !=y)=false:=by assumption
    have f:x=y:=by simpa using e
    have o:=O f;clear f e
    go_roundw
    case rel=>
     refine⟨k,_,by omega,rfl,?_,rfl⟩;rw[l];simp only[qS,g.out,h.out];rw[aq o.out]
    case measure=>simp[intOf]
def tP(x y a b n m c d)(w:World)(f:SL w w a n c (ip x))(g:SL w w b m d (ip y))(i:n<=1000000000):
 Calls prog 237 #[Z a n c,Z b m d] w (QE w (.bool (decide (x<y)))):=by
 have e:decide (x<y)=decide (JY (ip x) (ip y) <0):=by rw[dj];exact JZ.2.symm
 rw[e];by_cases h:n=m
 .subst h
  have:=Kw _ _ a b n c d w f g i (iU x) (iU y);unfold JY;rw[aq (by rw[<- f.len,<- g.len]),<- f.len];exact this
 .have:=MU a b n m c d w h
  unfold JY;rw[aj (by rw[<- f.len,<- g.len];exact h),<- f.len,<- g.len];exact this
def rN(s z a n c)(w:World)(h:LG w w s a n c z):
 Calls prog 196 #[.agg #[s,Z a n c]] w (iZ w (.bool true)):=by
 have f:=h.2.1;have A:=h.1;have X:=h.2.2;have t:=iU z.natAbs;have C:=My z.natAbs;have u:=f.len;generalize hzs:ip z.natAbs=zs at*;have K:=O A;have F:=O t;have H:=O f;have q:=O u;have L:=O C;have r:=O hzs;clear A t f h u C hzs;have kk:=Pr w (.bool s) (.slice a n c) 221;by_cases h0:n=0
 .have B:s=false:=by
   rw[K];have:=jC.1 (by rw[r,<- q];exact h0);simp;omega
  subst h0 B;go_enter func196,ntmps196;go_wp2;go_ret;exact⟨rfl,(TH _ _).alloc (aa _) _⟩
 .obtain⟨b,off,rfl,M,l⟩:=H.at (by omega)
  have i:0<n:=by omega
  have d:zs.getD (n-1) 0≠0:=by have:=L.out;have e:=q.out;rw[e]at i⊢;exact this i
  have m:∀j,(w.alloc (.cells #[s,Z (some ⟨b,off,none⟩) n c] 221)).cell? ⟨b,off+j,none⟩=w.cell? ⟨b,off+j,none⟩:=fun j=>((TH w w).alloc (aa _) _).cell (p:=⟨b,off+j,none⟩) M
  have g:=(m (n-1)).trans (l (n-1) (by omega))
  have g2:((n:Int)-1).toNat=n-1:=by omega
  have Q:(zs.getD (n-1) 0==0)=false:=by simpa using d
  have T:(zs.getD (n-1) 0 !=0)=true:=by simpa using d
  have R:((n:Int)==0)=false:=by simp;omega
  have S:n-1<n:=by omega
  have o:=O l;have D:=O m;clear l h0 d m;generalize hxx:zs.getD (n-1) 0=x at*;have N:=O hxx;clear hxx;have E:=O g;clear g;go_enter func196,ntmps196;go_wp2
  go_loop [3] (fun v=>∃k:Nat,k<=n/\v=.int .i64 k) (fun v=>n-(intOf v).toNat)
  case atStart=>exact⟨0,aA _,rfl⟩
  case round=>
   obtain⟨k,W,rfl⟩:=hrel;by_cases P:k<n
   .have g:=(D k).trans (o k (by omega))
    have g2:=F.all k;generalize zs.getD k 0=y at*;go_wp2
    go_round
    case rel=>exact⟨k+1,by omega,by go_num⟩
    case measure=>simp[intOf];omega
   .have g:=E.out
    go_wp2;go_ret;exact⟨rfl,(TH _ _).alloc (aa _) _⟩
def mx(N M:Nat)(a:Option Addr)(n:Nat):Prop:=∀b off,a=some ⟨b,off,none⟩->0<n->b<N\/M<=b
def mx.ofFresh{N M a n}(h:kS M a n):mx N M a n:=fun b off e h0=>VS (h b off e h0)
def mx.ofLG{N M w s a n c z}(h:LG N w s a n c z):mx N M a n:=fun b off e h0=>by
 obtain⟨b',f,d,g,_⟩:=h.2.1.at h0;rw[e]at d;cases d;exact VR g
def Sq(N:Nat)(w:World)(z:Int)(e:Ending)(w':World):Prop:=
 ∃s a n c,e=.returned (.agg #[.bool s,Z a n c])/\LG w' w' s a n c z/\Below w w w'/\mx N w a n
def mI{f:World}{s a n c N M d z}(i:LG f f s a n c z)(j:mx N M a n)(h1:N<=d)(h2:d<M)(u v):
 LG ((f.setCell (J d) u).setCell ⟨d,1,none⟩ v).heap.size ((f.setCell (J d) u).setCell ⟨d,1,none⟩ v) s a n c z:=by
 have g:∀b off,a=some ⟨b,off,none⟩->0<n->b≠d:=fun b off e h0=>by obtain h|h:=j b off e h0<;>omega
 have:=(i.setCell (J d) u g).setCell ⟨d,1,none⟩ v g;simpa using this
def jr(b a:Int)(zs:List Int):Bool:=zs.any fun z=>decide (z<b)||decide (a<z)
def Ee{f:Int->Bool}{zs:List Int}{k}(h:k<zs.length)(h0:(zs.take k).any f=false):(zs.take (k+1)).any f=f (zs.getD k 0):=by
 rw[dV h,eo,h0];simp[ah,h]
def xH(b a z:Int)(d c w)(f:w.cell? (J d)=some (.int .i64 b))(e:w.cell? (J c)=some (.int .i64 a)):
 Calls prog 239 #[z,U d,U c] w (iZ w (.bool (decide (z<b)||decide (a<z)))):=by
 by_cases h1:z<b
 .go_enter func239,ntmps239
  go_wp2;go_ret;exact⟨by simp[h1],TH _ _⟩
 .by_cases h2:a<z
  all_goals
   go_enter func239,ntmps239;go_wp2;go_ret;exact⟨by simp[h1,h2],TH _ _⟩
def Jl(w:World)(b:Bool)(e:Ending)(w':World):Prop:=∃r:Int,e=.returned (.int .i64 r)/\decide (0<=r)=b/\Below w w w'
def AZ(f d zs a n c o m)(w:World)(u:SL w w a n c zs)(X:n<=1000000)(K:w.cell? (J o)=some (.int .i64 f))(H:w.cell? (J m)=some (.int .i64 d))(S:o<w.heap.size)(lh:m<w.heap.size):
 Calls prog 259 #[Z a n c,.func (.func 239) #[] #[U o,U m]] w (Jl w (jr f d zs)):=by
 have l:=u.len;have Q:=O u;have P:=O K;have N:=O H;have i:=O l;clear u K H l;go_enter func259,ntmps259;go_wp2_with fail
 go_loopw [8] (fun v wr=>∃k:Nat,k<=n/\v=.int .i64 (k:Int)/\jr f d (zs.take k)=false/\Below w w wr) (fun v _=>n-(intOf v).toNat)
 case atStart=>exact⟨0,aA _,rfl,rfl,TH _ _⟩
 case round=>
  obtain⟨k,W,rfl,L,E⟩:=hrel;have D:=O L;have h:=O E;clear L E;by_cases t:k<n
  .obtain⟨b,off,rfl,hlt,F⟩:=(Q.go h).at (by omega)
   have c0:=F k t;clear F;have g:=Ee (k:=k) (by rw[<- i];exact t) D;generalize zs.getD k 0=z at*;have c1:=(h.cell (p:=J o) S).trans P;have c2:=(h.cell (p:=J m) lh).trans N;have y:=O c1;have A:=O c2;clear c1 c2;have C:=O g;clear g
   by_cases q:(decide (z<f)||decide (d<z))=true
   .have r:=O q;clear q
    go_wp2_with fail;refine(xH f d z o m _ y A).mono ?_;rintro e T ⟨s,j⟩;rw[r]at s;subst s;go_wp2;go_ret;refine⟨(k:Int),rfl,?_,h.trans (j.mono h.size)⟩;rw[aP (by omega)];have h1:=C.out;rw[r]at h1
    symm
    unfold jr;obtain⟨x,R,M⟩:=cw.1 h1;exact cw.2 ⟨x,List.mem_of_mem_take R,M⟩
   .have q:(decide (z<f)||decide (d<z))=false:=by simpa using q
    have r:=O q;clear q;go_wp2_with fail;refine(xH f d z o m _ y A).mono ?_;rintro e T ⟨s,j⟩;rw[r]at s;subst s;have B:=O (h.trans (j.mono h.size));clear j;go_wp2_with fail
    go_roundw
    case rel=>exact⟨k+1,by omega,by go_num,C.trans r,B⟩
    case measure=>simp[intOf];omega
  .obtain rfl:k=n:=by omega
   go_wp2;go_ret;refine⟨-1,rfl,?_,h⟩;have h1:=D.out;rw[i,bf]at h1;rw[h1];rfl
def Ef(f b zs a n c h g)(w:World)(q:SL w w a n c zs)(p:n<=1000000)(l:w.cell? (J h)=some (.int .i64 f))(k:w.cell? (J g)=some (.int .i64 b))(s:h<w.heap.size)(lh:g<w.heap.size):
 Calls prog 238 #[Z a n c,.func (.func 239) #[] #[U h,U g]] w (iZ w (.bool (jr f b zs))):=by
 have o:=O l;have m:=O k;clear l k;go_enter func238,ntmps238;go_wp2_with fail;refine(AZ f b zs a n c h g _ q p o m s lh).mono ?_;rintro e t ⟨r,rfl,d,j⟩;by_cases h0:0<=r
 .rw[aP h0]at d
  have i:=O d;clear d;go_wp2;go_ret;exact⟨by rw[<- i];rfl,j⟩
 .rw[aw h0]at d
  have i:=O d;clear d;have h1:decide (0<=r)=false:=aw h0;go_wp2;go_ret;exact⟨by rw[<- i];rfl,j⟩
def pz(f d:Int)(zs a n c)(w:World)(o:SL w w a n c zs)(m:n<=1000000):
 Calls prog 200 #[f,d,Z a n c] w (iZ w (.bool (!jr f d zs))):=by
 obtain⟨i,j⟩:=iN w (.cells #[f] 3) (.cells #[d] 3);have g:=iH (w:=w) (.cells #[f] 3) (.cells #[d] 3);have k:=O i;have l:=O j;have h:=O g;clear i j g;go_enter func200,ntmps200;go_wp2_with fail;refine(Ef f d zs a n c w (w+1) _ (o.go h) m ((gA k 0).trans rfl) ((gA l 0).trans rfl) (by simp<;>omega) (by simp)).mono ?_;rintro e p ⟨rfl,g⟩;generalize jr f d zs=b at*;go_wp2;go_ret;exact⟨rfl,h.trans (g.mono h.size)⟩
def qh(d:Int)(zs a n c)(w:World)(h:SL w w a n c zs)(g:n<=1000000)(h0:0<=d)(h1:d<=9223372036854775807):
 Calls prog 204 #[d,Z a n c] w (iZ w (.bool (!jr (-d) d zs))):=by
 go_enter func204,ntmps204;go_wp2_with fail;refine(pz (-d) d zs a n c _ h g).mono ?_;rintro e i ⟨rfl,f⟩;generalize(!jr (-d) d zs)=b at*;go_wp2;go_ret;exact⟨rfl,f⟩
def QG{w:World}{cs xs}(h:cs=(xs.map (Value.int .i64)).toArray):SL (w.alloc (.cells cs 3)).heap.size (w.alloc (.cells cs 3)) (J (w.heap.size)) xs.length xs.length xs:=by
 subst h;refine vO.sl ⟨[],?_⟩ (aa _);rw[TL,bG]
def Jm{w:World}{cs xs b m}(a:b=w.heap.size)(c:m=xs.length)(h:cs=(xs.map (Value.int .i64)).toArray):SL (w.alloc (.cells cs 3)).heap.size (w.alloc (.cells cs 3)) (J b) m m xs:=by
 subst a c;exact QG h
def oH(i p q:Int):Bool:=!jr 10000000 40000000 [i]&& !jr 0 1000 [p]&& !jr 1 1000 [q]
def SY{w:World}{b}{x:Int}(a:b=w.heap.size):SL (w.alloc (.cells #[x] 3)).heap.size (w.alloc (.cells #[x] 3)) (J b) 1 1 [x]:=Jm a rfl rfl
def Tw{w:World}{b}{a x1:Int}(c:b=w.heap.size):SL (w.alloc (.cells #[a,x1] 3)).heap.size (w.alloc (.cells #[a,x1] 3)) (J b) 2 2 [a,x1]:=Jm c rfl rfl
def TE{w:World}{b}{a x1 x2:Int}(c:b=w.heap.size):SL (w.alloc (.cells #[a,x1,x2] 3)).heap.size (w.alloc (.cells #[a,x1,x2] 3)) (J b) 3 3 [a,x1,x2]:=Jm c rfl rfl
def TF{w:World}{b}{a x1 x2 c d:Int}(e:b=w.heap.size):SL (w.alloc (.cells #[a,x1,x2,c,d] 3)).heap.size (w.alloc (.cells #[a,x1,x2,c,d] 3)) (J b) 5 5 [a,x1,x2,c,d]:=Jm e rfl rfl
def Eg(i p q:Int)(w):Calls prog 210 #[.agg #[i,p,q]] w (iZ w (.bool (oH i p q))):=by
 go_enter func210,ntmps210
 go_wp2_with((with_reducible refine(pz _ _ _ _ _ _ _ (SY (by simp)) (by omega)).mono ?_);rintro e b ⟨rfl,a⟩;obtain⟨c,hf⟩:=rp a;(have d:w.heap.size<b.heap.size:=by(have:=a.size;(try simp at this);omega)))
 all_goals
  go_ret;refine⟨?_,by(repeat (first|exact TH _ _|apply gY|apply jA|exact below_chain1 (by assumption)|(refine I ?_ (by assumption))|(refine qo ?_ ?_)))⟩;simp[oH, *]
def BX{w:World}{x1 y1 x2 y2 t a}(b:Below ((w.alloc (.cells #[x1,y1] t)).alloc (.cells #[x2,y2] t)).heap.size ((w.alloc (.cells #[x1,y1] t)).alloc (.cells #[x2,y2] t)) a):
 a.cell? (J (w.heap.size))=some x1/\a.cell? ⟨w.heap.size,1,none⟩=some y1/\a.cell? (J (w+1))=some x2/\a.cell? ⟨w.heap.size+1,1,none⟩=some y2/\w.heap.size+2<=a.heap.size/\Below w w a:=by
 obtain⟨c,d⟩:=iN w (.cells #[x1,y1] t) (.cells #[x2,y2] t);obtain⟨a1,a2,_,_⟩:=gQ c;obtain⟨b1,b2,_,_⟩:=gQ d;have e:=b.size;simp at e;refine⟨(b.cell (p:=J (w.heap.size)) (by simp;omega)).trans a1,(b.cell (p:=⟨w.heap.size,1,none⟩) (by simp;omega)).trans a2,(b.cell (p:=J (w+1)) (by simp)).trans b1,(b.cell (p:=⟨w.heap.size+1,1,none⟩) (by simp)).trans b2,by omega,mA (mA b)⟩
def Kx(s t:Bool)(a b n m c d w)(e:s≠t\/n≠m):
 Calls prog 230 #[.agg #[s,Z a n c],.agg #[t,Z b m d]] w (iZ w (.bool false)):=by
 have i:=iH (w:=w) (.cells #[s,Z a n c] 221) (.cells #[t,Z b m d] 221);have g:=O i;clear i;by_cases f:s=t
 .subst f
  have j:n≠m:=e.resolve_left (fun h=>h rfl)
  have h1:((n:Int) !=m)=true:=by simp;omega
  clear e j;cases s
  all_goals
   go_enter func230,ntmps230;go_wp2;go_ret;exact⟨rfl,g⟩
 .clear e
  cases s
  all_goals cases t
  all_goals first
   |exact absurd rfl f
   |(clear f
     go_enter func230,ntmps230;go_wp2;go_ret
     exact⟨rfl,g⟩)
def MV(s:Bool)(xs ys a b n c d)(w:World)(H:SL w w a n c xs)(K:SL w w b n d ys)(hn:n<=1000)(P:mv xs)(Q:mv ys):
 Calls prog 230 #[.agg #[s,Z a n c],.agg #[s,Z b n d]] w (iZ w (.bool (decide (xs=ys)))):=by
 generalize hR:decide (xs=ys)=R;have r:=O hR;clear hR;have q:=O H;have u:=O K;clear H K;have T:=O P;have W:=O Q;clear P Q;go_enter func230,ntmps230;go_wp2;have hq:=BX (TH _ _) (w:=w) (x1:=.bool s) (y1:=.slice a n c) (x2:=.bool s) (y2:=.slice b n d) (t:=221);obtain⟨q1,q2,q3,q4,q5,S⟩:=hq;have f:=O S;generalize hW:(w.alloc (.cells #[s,Z a n c] 221)).alloc (.cells #[s,Z b n d] 221)=W0 at*;clear hW S
 go_loopw [5] (fun v wr=>∃k j:Nat,k<=n/\v=.int .i64 (k:Int)/\(∀i,i<k->xs.getD i 0=ys.getD i 0)/\wr=W0.drewN j) (fun v _=>n-(intOf v).toNat)
 case atStart=>exact⟨0,0,aA _,rfl,fun i hi=>absurd hi (by omega),rfl⟩
 case round=>
  obtain⟨k,j,hk,rfl,N,rfl⟩:=hrel;have A:=O N;clear N;by_cases h0:k=n
  .subst h0
   have F:R=true:=by
    rw[<- r,aD]
    refine List.ext_getElem (by rw[<- q.len,<- u.len]) fun i h1 h2=>?_
    have:=A i (by rw[q.len];exact h1);simpa[ah,ae h1,ae h2]using this
   subst F;go_wp2;go_ret;exact⟨rfl,gV f _⟩
  .have o:k<n:=by omega
   obtain⟨_,_,D⟩:=q;obtain⟨X,oa,rfl,L,B⟩:=D (by omega);obtain⟨_,_,E⟩:=u;obtain⟨bb,ob,rfl,M,C⟩:=E (by omega);have g1:=(f.cell (p:=⟨X,oa+k,none⟩) L).trans (B k o);have g3:=(f.cell (p:=⟨bb,ob+k,none⟩) M).trans (C k o);have a0:=T.all k;have a1:=W.all k;clear B C D E h0;generalize hxx:xs.getD k 0=x at*;generalize hyy:ys.getD k 0=y at*;have l:=O hxx;have m:=O hyy;clear hxx hyy;go_wp2
   go_quiet (fail)
   go_wp2
   .go_ret
    have g:(x !=y)=true:=by assumption
    refine⟨?_,by simp only[World.drewN_drewN];exact gV f _⟩
    show Ending.returned (.bool false)=_
    rw[<- r,aw];intro e;have:=l.out;rw[e,m]at this;simp[this]at g
   .have g:(x !=y)=false:=by assumption
    have h:x=y:=by simpa using g
    have z:=O h;clear h g
    go_roundw
    case rel=>
     refine⟨k+1,_,by omega,by go_num,fun i hi=>?_,rfl⟩;by_cases e:i=k
     .subst e;rw[l,m,z]
     .exact A i (by omega)
    case measure=>simp[intOf];omega
def MW{m n}:ip m=ip n↔m=n:=by
 constructor
 .intro h
  have:=ai val h;rw[iY,iY]at this;omega
 .rintro rfl;rfl
def EB(s t x y a b n m c d)(w:World)(f:LG w w s a n c x)(g:LG w w t b m d y):
 Calls prog 230 #[.agg #[s,Z a n c],.agg #[t,Z b m d]] w (iZ w (.bool (decide (x=y)))):=by
 by_cases h:s≠t\/n≠m
 .have e:decide (x=y)=false:=by
   rw[aw];rintro rfl
   obtain h|h:=h
   .exact h (by rw[f.1,g.1])
   .exact h (by rw[f.2.1.len,g.2.1.len])
  rw[e];exact Kx s t a b n m c d w h
 .have h1:s=t:=bg fun i=>h (VR i)
  have h2:n=m:=bg fun i=>h (VS i)
  subst h1 h2
  have e:decide (x=y)=decide (ip x.natAbs=ip y.natAbs):=by
   rw[dj,MW];have j:=f.1;have k:=g.1;rw[j,dj]at k;omega
  rw[e];exact MV s _ _ a b n c d w f.2.1 g.2.1 (by have:=f.2.2;omega) (iU _) (iU _)
def uy(s t x y a b n m c d)(w:World)(ha:LG w w s a n c x)(i:LG w w t b m d y):
 Calls prog 198 #[.agg #[s,Z a n c],.agg #[t,Z b m d]] w (iZ w (.int .i64 (oG x y))):=by
 generalize hR:oG x y=R;have B:=O hR;clear hR;have M:=iH (w:=w) (.cells #[s,Z a n c] 221) (.cells #[t,Z b m d] 221);have C:=O ha;have Q:=O i;have F:=O M;clear ha i M;have hs:=C.1;have ht:=Q.1;have S:=O hs;have X:=O ht;clear hs ht;go_enter func198,ntmps198;go_wp2_with fail;refine(EB s t x y a b n m c d _ (C.go F) (Q.go F)).mono ?_;rintro e w2 ⟨rfl,H⟩;obtain⟨q1,q2,q3,q4,q5,k⟩:=BX H;clear H
 have o:w.heap.size<w2.heap.size:=by omega
 have q:w.heap.size+1<w2.heap.size:=by omega
 by_cases g:x=y
 .have a0:R=0:=by rw[<- B];unfold oG;subst g;simp
  have z:decide (x=y)=true:=by simpa using g
  subst a0;clear g;rw[z];clear z;go_wp2;go_ret;exact⟨rfl,k⟩
 .have z:decide (x=y)=false:=by simpa using g
  rw[z];clear z;by_cases r:s=t
  .subst r
   have l:R=if(decide (x.natAbs<y.natAbs) !=s)=true then -1 else 1:=by
    rw[<- B,S];have h1:=S.out;rw[X,dj]at h1;unfold oG;by_cases D:x<0
    .have h2:y<0:=h1.2 D
     simp[D];by_cases h3:x<y
     .rw[aq h3,aq (by omega)]
     .rw[aj h3,aq (by omega),aj (by omega)]
    .have h2:¬y<0:=fun h=>D (h1.1 h)
     simp[D];by_cases h3:x<y
     .rw[aq h3,aq (by omega)]
     .rw[aj h3,aq (by omega),aj (by omega)]
   have E:=O l;clear l g;have N:=(C.go k).2.1;have P:=(Q.go k).2.1;have T:=O N;have W:=O P;clear N P;go_wp2_with fail;refine gS 8 [(0,true),(1,true),(2,true),(3,true),(5,true),(6,true),(4,false),(7,true)] (by kernel_rfl) (by kernel_rfl) ?_
   iterate 6
    refine gU (v:=?_) ?_ ?_;rotate_left
    .intro x f
     have z1:=(f.cell (p:=J (w.heap.size)) o).trans q1;have z2:=(f.cell (p:=⟨w.heap.size,1,none⟩) o).trans q2;have z3:=(f.cell (p:=J (w+1)) q).trans q3;have z4:=(f.cell (p:=⟨w.heap.size+1,1,none⟩) q).trans q4;go_simp;rfl
    try simp only[V]
   refine gP (fun K hK=>?_);go_simp;refine(tP x.natAbs y.natAbs a b n m c d _ (by exact T) (by exact W) (by have:=C.2.2;omega)).mono ?_;rintro e w4 ⟨rfl,nk,rfl⟩;refine hK _ _ (gV (TH _ _) _) ?_;clear hK K;(try simp only[V]);generalize hL:decide (x.natAbs<y.natAbs)=L at*;have Hl:=O hL;clear hL;by_cases i:(L !=s)=true
   .have j:R= -1:=by rw[E,aq i]
    have u:=O j;clear j
    have a1:(L==s)=false:=by simpa[bne]using i
    refine gU (v:=?_) ?_ ?_;rotate_left
    .intro x f
     go_simp;rfl
    (try simp only[V]);refine iu rfl ?_;go_wp2;go_ret;exact⟨by rw[u];rfl,gV k _⟩
   .have j:R=1:=by rw[E,aj i]
    have u:=O j;clear j
    have i:(L !=s)=false:=by simpa using i
    have a1:(L==s)=true:=by simpa[bne]using i
    refine gU (v:=?_) ?_ ?_;rotate_left
    .intro x f
     go_simp;rfl
    (try simp only[V]);refine iu rfl ?_;go_wp2;go_ret;exact⟨by rw[u];rfl,gV k _⟩
  .have l:(s=true/\t=false/\R= -1)\/(s=false/\t=true/\R=1):=by
    rw[<- B];have h1:=S.out;have h2:=X.out;unfold oG;by_cases f:x<0
    .by_cases A:y<0
     .rw[aP f]at h1;rw[aP A]at h2;exact absurd (h1.trans h2.symm) r
     .rw[aP f]at h1;rw[aw A]at h2
      exact VR ⟨h1,h2,aq (by omega)⟩
    .by_cases A:y<0
     .rw[aw f]at h1;rw[aP A]at h2
      exact VS ⟨h1,h2,by rw[aj (by omega),aq (by omega)]⟩
     .rw[aw f]at h1;rw[aw A]at h2;exact absurd (h1.trans h2.symm) r
   clear r g B
   obtain ⟨rfl,rfl,rfl⟩|⟨rfl,rfl,rfl⟩:=l
   .go_wp2
    go_ret;exact⟨rfl,k⟩
   .go_wp2
    go_ret;exact⟨rfl,k⟩
def Y.asph{w g s a n c}(h:Y w g s a n c):SL w w (some ⟨g,5,none⟩) 4 4 [s.a0,s.a1,s.a2,s.a3]:=by
 obtain⟨_,_,_,_,_,h5,b,d,e,_⟩:=h.cells;refine⟨rfl,aa _,fun _=>⟨g,5,rfl,h.lt,fun j f=>?_⟩⟩
 match j,f with
 |0,_=>exact h5
 |1,_=>exact b
 |2,_=>exact d
 |3,_=>exact e
def Y.phase{w g s a n c}(h:Y w g s a n c):SL w w (some ⟨g,9,none⟩) 2 2 [s.p0,s.p1]:=by
 obtain⟨_,_,_,_,_,_,_,_,_,d,b,_⟩:=h.cells;refine⟨rfl,aa _,fun _=>⟨g,9,rfl,h.lt,fun j e=>?_⟩⟩
 match j,e with
 |0,_=>exact d
 |1,_=>exact b
def uU(s:gW):Bool:=!jr (-1000000000) 1000000000 [s.curv,s.t6,s.t8,s.dx,s.dy]&& !jr (-1000000000) 1000000000 [s.a0,s.a1,s.a2,s.a3]&& !jr (-1000000000) 1000000000 [s.p0,s.p1]
def uV(s:gW):Bool:=!jr (-100000000) 100000000 [s.conic,s.t7]&& !jr (-90000000) 90000000 [s.ax,s.ay,s.az]
def uW(s:gW):Bool:=!jr (-3) 3 [s.order]&& !jr 0 1000000000 [s.r9,s.p8]
def xI(s:gW):Bool:=decide (s.r9=0)||decide (s.p8<s.r9)
def BC(s a n c g w)(h:Y w g s a n c):Calls prog 203 #[U g] w (iZ w (.bool (uU s))):=by
 obtain⟨k0,k1,C,D,E,F,K,L,M,N,o,p,q,r,t,u,v,x,y,z,A,B⟩:=h.cells;have j:=h.lt;have H:=O h;clear h;go_enter func203,ntmps203
 go_wp2_with(first
  |((with_reducible refine(qh _ _ _ _ _ _ (TF (by simp)) (by omega) (by omega) (by omega)).mono ?_);rintro e d ⟨rfl,b⟩;obtain⟨i,hf⟩:=rp b;(have k:g<d.heap.size:=by(have:=b.size;(try simp at this);omega));have f:=O (I (gY (TH _ _)) b);have S1:=O (Y.asph (Y.go H f j)))
  |((with_reducible refine(qh _ _ _ _ _ _ S1.out (by omega) (by omega) (by omega)).mono ?_);rintro e d ⟨rfl,b⟩;obtain⟨i,hf⟩:=rp b;(have k:g<d.heap.size:=by(have:=b.size;(try simp at this);omega));have l:=O (I f b);have m:=O (Y.phase (Y.go H l j)))
  |((with_reducible refine(qh _ _ _ _ _ _ m.out (by omega) (by omega) (by omega)).mono ?_);rintro e d ⟨rfl,b⟩;obtain⟨i,hf⟩:=rp b;(have k:g<d.heap.size:=by(have:=b.size;(try simp at this);omega))))
 all_goals
  go_ret;refine⟨?_,by(repeat (first|exact TH _ _|apply gY|apply jA|exact below_chain1 (by assumption)|(refine I ?_ (by assumption))|(refine qo ?_ ?_)))⟩;simp[uU, *]
def BD(s a n c g w)(h:Y w g s a n c):Calls prog 205 #[U g] w (iZ w (.bool (uV s))):=by
 obtain⟨k0,k1,z,A,B,C,D,E,F,K,j,k,l,m,o,p,q,r,t,u,v,x⟩:=h.cells;have y:=h.lt;have H:=O h;clear h;go_enter func205,ntmps205
 go_wp2_with(first
  |((with_reducible refine(qh _ _ _ _ _ _ (Tw (by simp)) (by omega) (by omega) (by omega)).mono ?_);rintro e d ⟨rfl,b⟩;obtain⟨f,hf⟩:=rp b;(have i:g<d.heap.size:=by(have:=b.size;(try simp at this);omega)))
  |((with_reducible refine(qh _ _ _ _ _ _ (TE (by simp)) (by omega) (by omega) (by omega)).mono ?_);rintro e d ⟨rfl,b⟩;obtain⟨f,hf⟩:=rp b;(have i:g<d.heap.size:=by(have:=b.size;(try simp at this);omega))))
 all_goals
  go_ret;refine⟨?_,by(repeat (first|exact TH _ _|apply gY|apply jA|exact below_chain1 (by assumption)|(refine I ?_ (by assumption))|(refine qo ?_ ?_)))⟩;simp[uV, *]
def BE(s a n c g w)(h:Y w g s a n c):Calls prog 206 #[U g] w (iZ w (.bool (uW s))):=by
 obtain⟨k0,k1,z,A,B,C,D,E,F,K,j,k,l,m,o,p,q,r,t,u,v,x⟩:=h.cells;have y:=h.lt;have H:=O h;clear h;go_enter func206,ntmps206
 go_wp2_with(first
  |((with_reducible refine(qh _ _ _ _ _ _ (SY (by simp)) (by omega) (by omega) (by omega)).mono ?_);rintro e d ⟨rfl,b⟩;obtain⟨f,hf⟩:=rp b;(have i:g<d.heap.size:=by(have:=b.size;(try simp at this);omega)))
  |((with_reducible refine(pz _ _ _ _ _ _ _ (Tw (by simp)) (by omega)).mono ?_);rintro e d ⟨rfl,b⟩;obtain⟨f,hf⟩:=rp b;(have i:g<d.heap.size:=by(have:=b.size;(try simp at this);omega))))
 all_goals
  go_ret;refine⟨?_,by(repeat (first|exact TH _ _|apply gY|apply jA|exact below_chain1 (by assumption)|(refine I ?_ (by assumption))|(refine qo ?_ ?_)))⟩;simp[uW, *]
def UU(s a n c g w)(h:Y w g s a n c):Calls prog 207 #[U g] w (iZ w (.bool (xI s))):=by
 obtain⟨k0,k1,r,t,u,v,x,y,z,A,b,d,e,f,i,j,k,l,m,o,p,q⟩:=h.cells;clear h;go_enter func207,ntmps207;go_wp2
 all_goals
  go_ret;refine⟨?_,TH _ _⟩;simp[xI, *]
def BG(s a n c g w)(h:Y w g s a n c):Calls prog 209 #[U g] w (iZ w (.bool (decide (n<=8)))):=by
 obtain⟨k0,k1,t,u,v,x,y,z,A,B,d,e,f,i,j,k,l,m,o,p,q,r⟩:=h.cells;clear h;go_enter func209,ntmps209;go_wp2
 all_goals
  go_ret;refine⟨ai (fun b=>Ending.returned (Value.bool b)) (dj.2 (by omega)),TH _ _⟩
def jh(w:World)(o p q):(((w.alloc o).alloc p).alloc q).heap[w.heap.size]? =some o/\(((w.alloc o).alloc p).alloc q).heap[w.heap.size+1]? =some p/\(((w.alloc o).alloc p).alloc q).heap[w.heap.size+2]? =some q:=by
 obtain⟨a,b⟩:=iN w o p;refine⟨?_,?_,?_⟩
 .rw[TJ _ _ _ (by simp;omega)];exact a
 .rw[TJ _ _ _ (by simp)];exact b
 .have:=TL ((w.alloc o).alloc p) q
  simpa using this
def lW(w:World)(o p q):Below w w (((w.alloc o).alloc p).alloc q):=
 (((TH _ _).alloc (aa _) _).alloc (by simp) _).alloc (by simp;omega) _
def jn(l:List Int)(k):val (l.take (k+1))=val (l.take k)+l.getD k 0*1000000000^k:=by
 by_cases h:k<l.length
 .exact oY h
 .rw[aM (by omega),aM (by omega),ah,bz (by omega)];simp
def S1(xs ys zs:List Int)(i:Nat)(a:Int):Prop:=
 zs.length=i/\mv zs/\val zs+a*1000000000^i=val (xs.take i)+val (ys.take i)/\0<=a/\a<=1
def S1.step{xs ys zs i c}(h:S1 xs ys zs i c)(f:mv xs)(g:mv ys):
 S1 xs ys (zs++[(xs.getD i 0+ys.getD i 0+c)%1000000000]) (i+1) ((xs.getD i 0+ys.getD i 0+c)/1000000000):=by
 obtain⟨h1,h2,h3,j,h5⟩:=h;have a:=f.all i;have b:=g.all i;refine⟨by simp[h1],h2.append (mv.cons (by omega) mv.nil),?_,by omega,by omega⟩;rw[oD,h1,jn,jn];simp only[val];generalize xs.getD i 0=x at*;generalize ys.getD i 0=y at*
 have e:(x+y+c)%1000000000+(x+y+c)/1000000000*1000000000=x+y+c:=by omega
 have d:val zs+1000000000^i*((x+y+c)%1000000000+1000000000*0)+(x+y+c)/1000000000*1000000000^(i+1)=val zs+((x+y+c)%1000000000+(x+y+c)/1000000000*1000000000)*1000000000^i:=by
  rw[dF,cJ,Int.mul_zero,fB,bN (1000000000^i),fi,bO,bN (1000000000^i) 1000000000]
 rw[d,e,cJ,cJ];omega
def S1.last{xs ys zs i}(h:S1 xs ys zs i 0)(a:xs.length<=i)(b:ys.length<=i):val zs=val xs+val ys:=by
 have:=h.2.2.1;rw[aM a,aM b]at this;omega
def QQ(w:World)(g h j:Obj)(xs ys:List Int)(e d f:Value)(wr:World):Prop:=
 ∃(i:Nat)(a:Int)(b:Option Addr)(c:Nat)(zs:List Int),e=.slice b zs.length c/\d=.int .i64 a/\f=.int .i64 (i:Int)/\S1 xs ys zs i a/\
  (i<=max xs.length ys.length\/(i=max xs.length ys.length+1/\a=0))/\wr.ownsRow (w+3) 3 1 (.slice b zs.length c) zs.length (zs.map (Value.int .i64))/\
  wr.heap[w.heap.size]? =some g/\wr.heap[w.heap.size+1]? =some h/\wr.heap[w.heap.size+2]? =some j/\Below w w wr/\w.heap.size+3<=wr.heap.size
def Ps(N s x y a b n m c d w)(ha:LG N w s a n c x)(hb:LG N w s b m d y)(hN:N<=w.heap.size)(L:(ip (x+y).natAbs).length<=600):
 Calls prog 236 #[.agg #[s,Z a n c],.agg #[s,Z b m d]] w (Sq N w (x+y)):=by
 have A:=O ha;have B:=O hb;clear ha hb;have hn:=A.2.2;have hm:=B.2.2;have a1:=O L;clear L;by_cases h0:n=0
 .subst h0
  have e7:x=0:=by have:=jC.1 A.2.1.len.symm;omega
  obtain⟨q,r,o⟩:=jh w (.cells #[s,Z a 0 c] 221) (.cells #[s,Z b m d] 221) (.cells #[s,Z b m d] 221);obtain⟨c0,c1,_,_⟩:=gQ o;have C0:=O c0;have C1:=O c1;clear c0 c1 q r o;go_enter func236,ntmps236;go_wp2;refine ar (v:=.agg #[s,Z b m d]) ?_ rfl ?_
  .simp[results,results236,go_sem,C0.out,C1.out]
  .have u:=lW w (.cells #[s,Z a 0 c] 221) (.cells #[s,Z b m d] 221) (.cells #[s,Z b m d] 221)
   exact⟨s,b,m,d,rfl,by rw[e7,Int.zero_add];exact(B.mono hN).go u,u,mx.ofLG B⟩
 .have g0:((n:Int)==0)=false:=by simp;omega
  by_cases e6:m=0
  .subst e6
   have e8:y=0:=by have:=jC.1 B.2.1.len.symm;omega
   obtain⟨q,r,o⟩:=jh w (.cells #[s,Z a n c] 221) (.cells #[s,Z b 0 d] 221) (.cells #[s,Z a n c] 221);obtain⟨c0,c1,_,_⟩:=gQ o;have C0:=O c0;have C1:=O c1;clear c0 c1 q r o;go_enter func236,ntmps236;go_wp2;refine ar (v:=.agg #[s,Z a n c]) ?_ rfl ?_
   .simp[results,results236,go_sem,C0.out,C1.out]
   .have u:=lW w (.cells #[s,Z a n c] 221) (.cells #[s,Z b 0 d] 221) (.cells #[s,Z a n c] 221)
    exact⟨s,a,n,c,rfl,by rw[e8,fB];exact(A.mono hN).go u,u,mx.ofLG A⟩
  .have g1:((m:Int)==0)=false:=by simp;omega
   have b2:=A.2.1.len;have b3:=B.2.1.len;have a7:=iU x.natAbs;have a8:=iU y.natAbs;have b7:=iY x.natAbs;have b8:=iY y.natAbs;have b5:=(A.2.1.mono hN);have b6:=(B.2.1.mono hN);have b4:s=decide (x<0)/\s=decide (y<0):=⟨A.1,B.1⟩;generalize ip x.natAbs=xs at*;generalize ip y.natAbs=ys at*;have C:=O b2;have E:=O b3;have a2:=O a7;have a3:=O a8;have d7:=O b7;have d8:=O b8;have d5:=O b5;have d6:=O b6;have d4:=O b4;clear b2 b3 a7 a8 b7 b8 b5 b6 b4;go_enter func236,ntmps236;go_wp2_with fail
   go_loopw [5,6,7] (fun dv cv iv wr=>QQ w (.cells #[s,Z a n c] 221 (0,0)) (.cells #[s,Z b m d] 221 (0,0)) (.cells #[false,oN] 221 (0,0)) xs ys dv cv iv wr) (fun _ _ iv _=>max n m+1-(intOf iv).toNat)
   case atStart=>
    obtain⟨q,r,o⟩:=jh w (.cells #[s,Z a n c] 221) (.cells #[s,Z b m d] 221) (.cells #[false,oN] 221);exact⟨0,0,none,0,[],rfl,rfl,rfl,⟨rfl,mv.nil,by simp[val],by omega,by omega⟩,VR (aA _),World.ownsRow_nil _ _ _ _,q,r,o,lW _ _ _ _,by simp⟩
   case round=>
    obtain⟨i,k,va,vc,zs,rfl,rfl,rfl,T,hi,M,W,X,a0,z,P⟩:=hrel;obtain⟨q1,q2,f1,f2⟩:=gQ W;obtain⟨q3,q4,f3,f4⟩:=gQ X;obtain⟨q5,q6,f5,f6⟩:=gQ a0;have a5:=d5.go z;have a6:=d6.go z;have c4:=O a5;have c5:=O a6;have HS:=O T;have h:=O M;have c6:=O W;have c7:=O X;have c8:=O a0;have f7:=T.2.2.2.1;have f8:=T.2.2.2.2;have b9:zs.length=i:=T.1;have a4:=O b9;clear a5 a6 T M W X a0 f1 f2 f3 f4 b9;have D:=C.out;have F:=E.out
    have b0:i<=max n m\/(i=max n m+1/\k=0):=by rw[D,F];exact hi
    have Hi:=O hi;clear hi D F
    have g7:i<=601:=by omega
    by_cases H:¬i<n/\ ¬i<m/\k=0
    .obtain⟨g2,g3,rfl⟩:=H
     clear b0;have hv:val zs=val xs+val ys:=HS.last (by rw[<- C];omega) (by rw[<- E];omega)
     have hz:x+y=if s then -val zs else val zs:=by
      obtain⟨s1,s2⟩:=d4;rw[hv,d7,d8];cases s
      .have h1:¬x<0:=by simpa using s1
       have h2:¬y<0:=by simpa using s2
       simp;omega
      .have h1:x<0:=by simpa using s1
       have h2:y<0:=by simpa using s2
       simp;omega
     have a9:(ip (val zs).toNat).length<=600:=by
      have h1:=jU HS.2.1
      have:(val zs).toNat=(x+y).natAbs:=by rw[hz];cases s<;>simp<;>omega
      rw[this];exact a1
     have Hz:=O hz;have c9:=O a9;clear hz a9 hv;go_wp2_with fail;refine(nl s zs _ _ _ _ _ (ur h) HS.2.1 (by have:=a4.out;omega) c9 Hz).mono ?_;rintro e w1 ⟨s',a',n',c',rfl,b1,t,hf⟩;have k5:=(t.cell (p:=J (w+2)) (by show w.heap.size+2<wr.heap.size;omega)).trans q5;have k6:=(t.cell (p:=⟨w.heap.size+2,1,none⟩) (by show w.heap.size+2<wr.heap.size;omega)).trans q6;have k7:=(t.frozen (p:=J (w+2)) (by show w.heap.size+2<wr.heap.size;omega)).trans f5;have k8:=(t.frozen (p:=⟨w.heap.size+2,1,none⟩) (by show w.heap.size+2<wr.heap.size;omega)).trans f6;have d3:=O b1;have Hf:=O hf;clear b1 hf;go_wp2_with fail;refine ar (v:=.agg #[s',Z a' n' c']) ?_ rfl ?_
     .simp[results,results236,go_sem,k5,k6]
     .refine⟨s',a',n',c',rfl,mI d3 (mx.ofFresh (N:=0) Hf) (aA _) (by omega) _ _,((z.trans (t.mono z.size)).setCell (by show w.heap.size<=w.heap.size+2;omega) _).setCell (by show w.heap.size<=w.heap.size+2;omega) _,mx.ofFresh (Hf.mono (by omega))⟩
    .have R:i<n\/(¬i<n/\i<m)\/(¬i<n/\ ¬i<m/\0<k):=by omega
     have g5:i<=max n m:=by omega
     have c2:i+1<=max n m\/(i+1=max n m+1/\(xs.getD i 0+ys.getD i 0+k)/1000000000=0)\/i+1=max n m:=by
      by_cases h1:i<max n m
      .exact VR (by omega)
      .refine VS (VR ⟨by omega,?_⟩)
       have h2:xs.getD i 0=0:=by rw[ah,bz (by rw[<- C];omega)];rfl
       have h3:ys.getD i 0=0:=by rw[ah,bz (by rw[<- E];omega)];rfl
       rw[h2,h3];omega
     clear H b0
     have g6:zs.length<=601:=by have:=a4.out;omega
     have f9:=a2.all i;have g4:=a3.all i;have c3:=O (HS.step a2 a3);generalize hxi:xs.getD i 0=xi at*;generalize hyi:ys.getD i 0=yi at*;have d9:=O hxi;have e0:=O hyi;clear hxi hyi
     have g8:0<=(xi+yi+k)%1000000000:=by omega
     have g9:(xi+yi+k)%1000000000<1000000000:=by omega
     have h4:0<=xi+yi+k:=by omega
     obtain g|⟨g,g'⟩|⟨g,g',g''⟩:=R
     all_goals
      go_wp2_with fail;refine gS 11 [(0,true),(1,true),(2,true),(4,true),(5,true),(6,true),(9,true),(3,false),(7,false),(8,true),(10,true)] (by kernel_rfl) (by kernel_rfl) ?_
      iterate 7
       refine gU (v:=?_) ?_ ?_;rotate_left
       .intro x hx
        have z2:=(hx.cell (p:=⟨w.heap.size,1,none⟩) (by show w.heap.size<wr.heap.size;omega)).trans q2;have z4:=(hx.cell (p:=⟨w.heap.size+1,1,none⟩) (by show w.heap.size+1<wr.heap.size;omega)).trans q4;go_simp;with_reducible rfl
       try simp only[V]
      refine gP (fun K S=>?_);go_simp;refine(ux xs a n c i xi _ (by exact c4) (by omega) (by omega) d9).mono ?_;rintro e w4 ⟨rfl,rfl⟩;refine S _ _ (TH _ _) ?_;clear S K;(try simp only[V]);refine gP (fun K S=>?_);go_simp;refine(ux ys b m d i yi _ (by exact c5) (by omega) (by omega) e0).mono ?_;rintro e w4 ⟨rfl,rfl⟩;refine S _ _ (TH _ _) ?_;clear S K;try simp only[V]
      iterate 2
       refine gU (v:=?_) ?_ ?_;rotate_left
       .intro x hx
        go_simp;with_reducible rfl
       try simp only[V]
      refine iu rfl ?_
      go_wp2_with(refine ju rfl (.tmp 57) (.tmp 60) 162 rfl underlying162 (w+3) _ _ zs rfl (h.alloc _) _ _ 1 1 [_] rfl (SL.one wr.drew _ _) (by simp) (by omega) (by simp;omega) ?_)
      intro v' w1 j l;obtain⟨e9,f0,rfl⟩:=kx j;have f:(wr.alloc (.cells #[.int .i64 ((xi+yi+k)%1000000000)] 3)).grownBy w1 (Value.slice va zs.length vc).ownBlock:=pY l;have q:=(jI (base:=w.heap.size+3) h f (b:=w.heap.size) (by omega) P).trans c6;have r:=(jI (base:=w.heap.size+3) h f (b:=w.heap.size+1) (by omega) P).trans c7;have e5:=(jI (base:=w.heap.size+3) h f (b:=w.heap.size+2) (by omega) P).trans c8;have o:=jF z h f (by omega) P;have e4:=f.size;have d0:=O q;have d1:=O r;have d2:=O e5;have Q:=O j;clear q r e5 j l f q1 q2 q3 q4 q5 q6;go_wp2
      go_roundw
      case rel=>
       refine⟨i+1,(xi+yi+k)/1000000000,e9,f0,zs++[(xi+yi+k)%1000000000],by simp,by go_num,by go_num,c3,?_,?_,d0,d1,d2,o,?_⟩
       .rw[<- C,<- E];omega
       .simpa using Q.out
       .simp at e4⊢;omega
      case measure=>simp[intOf];omega
def EC{w:World}{x1 y1 x2 y2 c d t a}(b:Below (((w.alloc (.cells #[x1,y1] t)).alloc (.cells #[x2,y2] t)).alloc (.cells #[c,d] t)).heap.size (((w.alloc (.cells #[x1,y1] t)).alloc (.cells #[x2,y2] t)).alloc (.cells #[c,d] t)) a):
 a.heap[w.heap.size]? =some (.cells #[x1,y1] t (0,0))/\a.heap[w.heap.size+1]? =some (.cells #[x2,y2] t (0,0))/\a.heap[w.heap.size+2]? =some (.cells #[c,d] t (0,0))/\w.heap.size+3<=a.heap.size/\Below w w a:=by
 obtain⟨e,f,g⟩:=jh w (.cells #[x1,y1] t) (.cells #[x2,y2] t) (.cells #[c,d] t);have h:=b.size;simp at h;exact⟨(b.block _ (by simp;omega)).trans e,(b.block _ (by simp)).trans f,(b.block _ (by simp)).trans g,by omega,mA (mA (mA b))⟩
def pb(c:Int):Bool:=decide ((65<=c/\c<=90)\/(97<=c/\c<=122)\/(48<=c/\c<=57)\/c=45\/c=95)
def kI(s:ByteArray):Bool:=(s.data.toList.all fun c=>pb (c.toNat:Int))&&decide (1<=s.size)&&decide (s.size<=16)
def xJ(c):(pb c=true/\((65<=c/\c<=90/\(c==45)=false/\(c==95)=false)\/(97<=c/\c<=122/\(c==45)=false/\(c==95)=false)\/(48<=c/\c<=57/\(c==45)=false/\(c==95)=false)\/(45<=c/\c<=45/\(c==45)=true/\(c==95)=false)\/(95<=c/\c<=95/\(c==45)=false/\(c==95)=true)))\/
 (pb c=false/\(c==45)=false/\(c==95)=false/\(c<48\/(¬c<=57/\c<65)\/(¬c<=90/\c<97)\/ ¬c<=122)):=by
 by_cases h:(65<=c/\c<=90)\/(97<=c/\c<=122)\/(48<=c/\c<=57)\/c=45\/c=95
 .refine VR ⟨aP h,?_⟩
  simp only[ak,dz];omega
 .refine VS ⟨aw h,?_⟩
  simp only[ak];omega
def zb(c w):Calls prog 162 #[.int .u8 c] w (iZ w (.bool (pb c))):=by
 obtain ⟨b,⟨h1,h2,h3,a⟩|⟨h1,h2,h3,a⟩|⟨h1,h2,h3,a⟩|⟨h1,h2,h3,a⟩|⟨h1,h2,h3,a⟩⟩|⟨b,h3,a,h1|⟨h1,h2⟩|⟨h1,h2⟩|h1⟩:=xJ c
 all_goals
  rw[b];clear b;go_enter func162,ntmps162;go_wp2;go_ret;exact⟨by simp<;>omega,TH _ _⟩
def Eh{s:ByteArray}{f:UInt8->Bool}{k}(h:k<s.size)(h0:(s.data.toList.take k).all f=true):(s.data.toList.take (k+1)).all f=f s[k]:=by
 rw[dV (by simpa using h),er,h0];simp;rfl
def Jn{s:ByteArray}{f:UInt8->Bool}{k}(h:k<s.size)(h0:f s[k]=false):s.data.toList.all f=false:=by
 rw[dw];intro a
 have:=an.1 a s[k] (by
  have:s[k]=s.data.toList[k]'(by simpa using h):=rfl
  rw[this];exact cW _)
 rw[h0]at this;cases this
def ze(s:ByteArray)(w)(v:s.size<=9223372036854775807):Calls prog 120 #[s] w (iZ w (.bool (kI s))):=by
 go_enter func120,ntmps120;go_wp2_with fail
 go_loopw [6] (fun j wr=>∃k:Nat,k<=s.size/\j=.int .i64 (k:Int)/\((s.data.toList.take k).all fun c=>pb (c.toNat:Int))=true/\Below w w wr) (fun j _=>s.size-(intOf j).toNat)
 case atStart=>exact⟨0,aA _,rfl,rfl,TH _ _⟩
 case round=>
  obtain⟨k,u,rfl,n,m⟩:=hrel;have l:=O n;have i:=O m;clear n m;by_cases h:k<s.size
  .have a:=Eh h l.out
   have p:=O a;clear a;by_cases b:pb (s[k].toNat:Int)=true
   .have d:=O b;clear b
    go_wp2_with((with_reducible refine(zb _ _).mono ?_);rintro e t ⟨g,f⟩;rw[d.out]at g;subst g)
    go_roundw
    case rel=>exact⟨k+1,by omega,by go_num,p.out.trans d.out,I i.out f⟩
    case measure=>simp[intOf];omega
   .have b:pb (s[k].toNat:Int)=false:=by simpa using b
    have d:=O b;clear b
    go_wp2_with((with_reducible refine(zb _ _).mono ?_);rintro e t ⟨g,f⟩;rw[d.out]at g;subst g)
    go_ret;refine⟨?_,I i.out f⟩;unfold kI;rw[Jn h d.out];rfl
  .obtain rfl:k=s.size:=by omega
   have h1:(s.data.toList.all fun c=>pb (c.toNat:Int))=true:=by
    have:=l.out
    rwa[aM (by simp)]at this
   have o:=O h1;clear h1
   by_cases q:1<=s.size<;>by_cases r:s.size<=16
   all_goals
    go_wp2
    all_goals
     go_ret;refine⟨?_,i.out⟩;unfold kI;rw[o.out];simp[q,r] <;>omega
def pA(s:ByteArray)(w)(r:s.size<=9223372036854775807):Calls prog 107 #[s] w (iZ w (.bool (kI s))):=by
 go_enter func107,ntmps107;go_wp2_with fail
 go_loopw [3] (fun h wr=>∃k:Nat,k<=s.size/\h=.int .i64 (k:Int)/\((s.data.toList.take k).all fun c=>pb (c.toNat:Int))=true/\Below w w wr) (fun h _=>s.size-(intOf h).toNat)
 case atStart=>exact⟨0,aA _,rfl,rfl,TH _ _⟩
 case round=>
  obtain⟨k,q,rfl,l,j⟩:=hrel;have i:=O l;have f:=O j;clear l j;by_cases e:k<s.size
  .have a:=Eh e i.out
   have n:=O a;clear a
   obtain ⟨d,⟨h1,h2,h3,b⟩|⟨h1,h2,h3,b⟩|⟨h1,h2,h3,b⟩|⟨h1,h2,h3,b⟩|⟨h1,h2,h3,b⟩⟩|⟨d,h3,b,h1|⟨h1,h2⟩|⟨h1,h2⟩|h1⟩:=xJ (s[k].toNat:Int)
   iterate 5
    .have g:=O d;clear d
     go_wp2
     go_roundw
     case rel=>exact⟨k+1,by omega,by go_num,n.out.trans g.out,f.out⟩
     case measure=>simp[intOf];omega
   all_goals
    have g:=O d;clear d;go_wp2
    try(any_goals(exfalso;rename_i hx;simp at hx;omega))
    go_ret;refine⟨?_,f.out⟩;unfold kI;rw[Jn e g.out];rfl
  .obtain rfl:k=s.size:=by omega
   have h1:(s.data.toList.all fun c=>pb (c.toNat:Int))=true:=by
    have:=i.out
    rwa[aM (by simp)]at this
   have m:=O h1;clear h1
   by_cases o:1<=s.size<;>by_cases p:s.size<=16
   all_goals
    go_wp2
    all_goals
     go_ret;refine⟨?_,f.out⟩;unfold kI;rw[m.out];simp[o,p] <;>omega
def ik:ByteArray:=⟨#[]⟩
def rI(s:gW):Bool:=s.i7.toList.isEmpty||kI s.i7
def BH(s a n c g w)(h:Y w g s a n c)(b:s.i7.size<=9223372036854775807):Calls prog 208 #[U g] w (iZ w (.bool (rI s))):=by
 obtain⟨k0,k1,v,x,y,z,A,B,C,D,d,f,i,j,k,l,m,o,p,q,r,t⟩:=h.cells;clear h;go_enter func208,ntmps208
 go_wp2_with((with_reducible refine(ze _ _ b).mono ?_);rintro e E ⟨rfl,u⟩)
 all_goals
  go_ret;refine⟨?_,by(repeat (first|exact TH _ _|apply gY|apply jA|exact below_chain1 (by assumption)|(refine I ?_ (by assumption))|(refine qo ?_ ?_)))⟩;simp[rI, *]
def kT(g:ByteArray):Bool:=g.toList==[77,73,82,82,79,82]
def rJ(s:gW):gW:=
 if s.kind=1 then{s with t6:=0,t7:=0,p0:=if s.order≠0/\kT s.i7=false then s.p0 else 0,p1:=if s.order≠0/\kT s.i7=false then s.p1 else 0,order:=if s.order≠0/\kT s.i7=false then s.order else 0,dx:=0,dy:=0,ax:=0,ay:=0,az:=0}
 else if s.kind=2 then{s with a0:=0,a1:=0,a2:=0,a3:=0,p0:=0,p1:=0,order:=0,dx:=0,dy:=0,ax:=0,ay:=0,az:=0}
 else if s.kind=3 then{kind:=s.kind,curv:=0,conic:=0,t6:=0,t7:=0,a0:=0,a1:=0,a2:=0,a3:=0,p0:=0,p1:=0,order:=0,t8:=s.t8,i7:=ik,r9:=0,p8:=0,dx:=s.dx,dy:=s.dy,ax:=s.ax,ay:=s.ay,az:=s.az}
 else{kind:=s.kind,curv:=s.curv,conic:=0,t6:=0,t7:=0,a0:=0,a1:=0,a2:=0,a3:=0,p0:=0,p1:=0,order:=0,t8:=s.t8,i7:=ik,r9:=s.r9,p8:=s.p8,dx:=0,dy:=0,ax:=0,ay:=0,az:=0}
def sj(w:World)(s:gW)(a:Option Addr)(n c:Nat)(e:Ending)(w':World):Prop:=e=.returned (.agg (⟨s,a,n,c⟩:jt))/\Below w w w'
def zh{B w w'}(h:Below B w w'):Below B w.drew w'.drew:=⟨h.os,h.tape,h.output,h.size,h.block⟩
def iQ{B g k}{w:World}{v}(h:B<=g):Below B w.drew (w.setCell ⟨g,k,none⟩ v).drew:=zh ((TH _ _).setCell (p:=⟨g,k,none⟩) h _)
def MH{B g k a}{w:World}{v u}(h:B<=g):Below B w.drew ((w.setCell ⟨g,k,none⟩ v).setCell ⟨g,a,none⟩ u).drew:=zh (((TH _ _).setCell (p:=⟨g,k,none⟩) h _).setCell (p:=⟨g,a,none⟩) h _)
def ii{w A:World}{g k v}(h:Below w w A)(a:w.heap.size<=g):Below w w (A.setCell ⟨g,k,none⟩ v):=h.setCell (p:=⟨g,k,none⟩) a _
def pd{w:World}{b:Nat}{o}(h:w.heap[b]? =some o):w.drew.heap[b]? =some o:=h
def Y.of_dr{w:World}{g s a n c}(h:w.heap[g]? =some (.cells (⟨s,a,n,c⟩:jt) 70 (0,0))):Y w.drew g s a n c:=h
def il{w:World}{g}{l:List Value}{k v}(h:w.heap[g]? =some (.cells l.toArray 70 (0,0))):(w.setCell ⟨g,k,none⟩ v).heap[g]? =some (.cells (l.set k v).toArray 70 (0,0)):=by
 have:=gG h k v
 rwa[bK]at this
structure Tv where
def zS:Tv:=⟨⟩
instance:Coe Tv (Array Value):=⟨fun _=>#[.int .i64 0,.int .i64 0,.int .i64 0,.int .i64 0,.int .i64 0,.int .i64 0,.int .i64 0,.int .i64 0,.int .i64 0,.int .i64 0,.int .i64 0,.int .i64 0,.int .i64 0,.string ik,.int .i64 0,.int .i64 0,.int .i64 0,.int .i64 0,.int .i64 0,.int .i64 0,.int .i64 0,.slice none 0 0]⟩
def R0(xs ys:List Int)(i:Nat)(a:List Int):Prop:=
 a.length=xs.length+ys.length/\mv a/\val a=val (xs.take i)*val ys
def R1(xs ys:List Int)(i k:Nat)(a:List Int):Prop:=
 a.length=xs.length+ys.length/\mv a/\val a=val (xs.take i)*val ys+xs.getD i 0*val (ys.take k)*1000000000^i
def R2(xs ys:List Int)(i k j:Nat)(t:Int)(a:List Int):Prop:=
 a.length=xs.length+ys.length/\mv a/\0<=t/\t<=999999998000000001/\val a+t*1000000000^j=val (xs.take i)*val ys+xs.getD i 0*val (ys.take (k+1))*1000000000^i
def R0.start(xs ys):R0 xs ys 0 (List.replicate (xs.length+ys.length) 0):=by
 refine⟨by simp,fun j _=>?_,?_⟩
 .simp only[ah,eR];split<;>simp
 .rw[uQ];simp[val]
def R0.row{xs ys a i}(h:R0 xs ys i a):R1 xs ys i 0 a:=⟨h.1,h.2.1,by rw[h.2.2];simp[val]⟩
def R1.done{xs ys a i}(h:R1 xs ys i ys.length a):R0 xs ys (i+1) a:=by
 refine⟨h.1,h.2.1,?_⟩;rw[h.2.2,jn,bf,cJ,bO,bO,bN (1000000000^i)]
def R1.dig{xs ys a i k}(h:R1 xs ys i k a)(c:mv xs)(d:mv ys):R2 xs ys i k (i+k) (xs.getD i 0*ys.getD k 0) a:=by
 obtain⟨h1,h2,h3⟩:=h;have b:=vj (c.all i) (d.all k);refine⟨h1,h2,b.1,b.2,?_⟩;rw[h3,jn,eh,cJ,Int.pow_add,fi];congr 2;rw[bO,bO,bO,bN (1000000000^i)]
def R2.done{xs ys a i k j}(h:R2 xs ys i k j 0 a):R1 xs ys i (k+1) a:=⟨h.1,h.2.1,by have:=h.2.2.2.2;omega⟩
def R2.step{xs ys b i k j t}(h:R2 xs ys i k j t b)(c:j<b.length):
 R2 xs ys i k (j+1) ((t+b.getD j 0)/1000000000) (b.set j ((t+b.getD j 0)%1000000000)):=by
 obtain⟨h1,h2,h3,d,h5⟩:=h;have a:=h2.all j;refine⟨by simpa using h1,fun q _=>?_,by omega,by omega,?_⟩
 .rw[rH];split
  .omega
  .exact h2.all q
 .rw[Jj c,<- h5,dF]
  generalize b.getD j 0=z at*;generalize(1000000000:Int)^j=p
  have e:(t+z)%1000000000-z+(t+z)/1000000000*1000000000=t:=by omega
  rw[bN p 1000000000,<- bO,fi,<- cJ,e]
def xR{l}(h:mv l)(k):val (l.take k)<=val l:=by
 have e:val l=val (l.take k)+1000000000^(l.take k).length*val (l.drop k):=by rw[<- oD,cA]
 have p:(0:Int)<=1000000000^(l.take k).length:=Int.pow_nonneg (by decide);have:=eH p (jU (h.drop k));omega
def R2.within{xs ys c i k j t}(h:R2 xs ys i k j t c)(a:mv xs)(b:mv ys)(s:0<t):j<xs.length+ys.length:=by
 obtain⟨h1,h2,h3,o,h5⟩:=h;apply bg;intro r
 have e:val (xs.take i)*val ys+xs.getD i 0*val (ys.take (k+1))*1000000000^i<=val (xs.take (i+1))*val ys:=by
  have p:(0:Int)<=1000000000^i:=Int.pow_nonneg (by decide);rw[jn xs i,cJ,bO (xs.getD i 0) (1000000000^i),bO,bN (1000000000^i) (val ys)];have:=ed (bB (xR b (k+1)) p) (a.all i).1;omega
 have f:val (xs.take (i+1))*val ys<=val xs*val ys:=bB (xR a _) (jU b)
 have g:val xs*val ys<1000000000^(xs.length+ys.length):=by
  rw[Int.pow_add];have p1:=rZ a;have v:=rZ b;have d:=jU a;have u:=jU b;have q:(0:Int) <1000000000^ys.length:=fK (by decide)
  calc val xs*val ys<=val xs*1000000000^ys.length:=ed (by omega) d
   _<1000000000^xs.length*1000000000^ys.length:=Int.mul_lt_mul_of_pos_right p1 q
 have l:(1000000000:Int)^(xs.length+ys.length)<=t*1000000000^j:=by
  have x:(1000000000:Int)^(xs.length+ys.length)<=1000000000^j:=by
   have:=dA (n:=1000000000) (by decide) (show xs.length+ys.length<=j by omega);have:=Int.ofNat_le.2 this;rw[dM,dM]at this;exact this
  have w:(0:Int) <1000000000^j:=fK (by decide);have:1*1000000000^j<=t*1000000000^j:=bB (by omega) (by omega);omega
 have m:=jU h2;omega
def Ky(x y):x*y=if(decide (x<0) !=decide (y<0))=true then -((x.natAbs:Int)*y.natAbs)else(x.natAbs:Int)*y.natAbs:=by
 by_cases b:x<0
 .by_cases a:y<0
  .rw[aP b,aP a,aj (by decide),show(x.natAbs:Int)= -x by omega,show(y.natAbs:Int)= -y by omega,Int.neg_mul_neg]
  .rw[aP b,aw a,aq (by decide),show(x.natAbs:Int)= -x by omega,show(y.natAbs:Int)=y by omega,Int.neg_mul,Int.neg_neg]
 .by_cases a:y<0
  .rw[aw b,aP a,aq (by decide),show(x.natAbs:Int)=x by omega,show(y.natAbs:Int)= -y by omega,Int.mul_neg,Int.neg_neg]
  .rw[aw b,aw a,aj (by decide),show(x.natAbs:Int)=x by omega,show(y.natAbs:Int)=y by omega]
def qA(s t x y a b n m c d)(w:World)(ha:LG w w s a n c x)(hb:LG w w t b m d y)(H:(ip (x*y).natAbs).length<=600):
 Calls prog 174 #[.agg #[s,Z a n c],.agg #[t,Z b m d]] w (tb w (x*y)):=by
 have hn:=ha.2.2;have hm:=hb.2.2;have Ha:=O ha;have Hb:=O hb;have Q:=O H;clear ha hb H;go_enter func174,ntmps174
 go_wp2_with(refine oE rfl (.tmp 16) (.tmp 16) 162 rfl underlying162 ((n:Int)+m) (n+m) rfl rfl (by omega) (by omega) ?_)
 intro R f T
 have F:Below (((w.alloc (.cells #[s,Z a n c] 221)).alloc (.cells #[t,Z b m d] 221)).alloc (.cells #[false,oN] 221)).heap.size
  (((w.alloc (.cells #[s,Z a n c] 221)).alloc (.cells #[t,Z b m d] 221)).alloc (.cells #[false,oN] 221)) R:=by simpa using T
 obtain⟨e1,e2,e3,d4,b1⟩:=EC F;clear T F
 have a4:w.heap.size+2<w.heap.size+1+1+1:=by omega
 have a3:w.heap.size+1+1+1<=w.heap.size+3:=by omega
 generalize w.heap.size+1+1+1=g at*;have L:=Ha.2.1;have M:=Hb.2.1;have a0:=iU x.natAbs;have a1:=iU y.natAbs;have a9:=iY x.natAbs;have b0:=iY y.natAbs;have c5:=L.len;have c6:=M.len;have a7:s=decide (x<0)/\t=decide (y<0):=⟨Ha.1,Hb.1⟩;generalize ip x.natAbs=xs at*;generalize ip y.natAbs=ys at*;obtain rfl:=c5;obtain rfl:=c6;have u:=O a0;have A:=O a1;have b9:=O a9;have c0:=O b0;have b3:=O L;have b4:=O M;have b7:=O a7;have r:=O a4;have c9:=O a3;have E1:=O e1;have E2:=O e2;have E3:=O e3;clear L M a0 a1 a9 b0 a7 Ha Hb e1 e2 e3 a4 a3;go_wp2_with fail
 go_loopw [6] (fun v wr=>∃(i:Nat)(h:List Int),i<=xs.length/\v=.int .i64 i/\vO wr g h/\R0 xs ys i h/\Below g R wr) (fun v _=>xs.length-(intOf v).toNat)
 case atStart=>exact⟨0,_,aA _,rfl,f,R0.start xs ys,TH _ _⟩
 case round=>
  clear f;obtain⟨i,h,hi,rfl,f,q,l⟩:=hrel;have E:=(l.block w (by have:=r.out;omega)).trans E1;have g2:=(l.block (w+1) (by have:=r.out;omega)).trans E2;have g3:=(l.block (w+2) (by have:=r.out;omega)).trans E3;obtain⟨q1,q2,_,_⟩:=gQ E;obtain⟨q3,q4,_,_⟩:=gQ g2;obtain⟨q5,q6,q7,q8⟩:=gQ g3;clear E g2 g3;by_cases c3:i<xs.length
  .obtain⟨wo,rfl⟩:∃wo:World,wo=wr:=⟨_,rfl⟩
   go_wp2_with fail;clear q1 q2 q3 q4 q5 q6 q7 q8
   go_loopw [7] (fun v wr=>∃(k:Nat)(h:List Int),k<=ys.length/\v=.int .i64 k/\vO wr g h/\R1 xs ys i k h/\Below g R wr) (fun v _=>ys.length-(intOf v).toNat)
   case atStart=>exact⟨0,_,aA _,rfl,f,q.row,l⟩
   case round=>
    clear f q l;obtain⟨k,h,hk,rfl,f,q,l⟩:=hrel;have E:=(l.block w (by have:=r.out;omega)).trans E1;have g2:=(l.block (w+1) (by have:=r.out;omega)).trans E2;obtain⟨q1,q2,_,_⟩:=gQ E;obtain⟨q3,q4,_,_⟩:=gQ g2;clear E g2;by_cases c4:k<ys.length
    .obtain⟨ba,oa,rfl,W,ca⟩:=b3.at (by omega)
     obtain⟨bb,ob,rfl,X,cb⟩:=b4.at (by omega);have B:=b1.trans (l.mono (by have:=r.out;omega));have E:=(B.cell (p:=⟨ba,oa+i,none⟩) W).trans (ca i c3);have g2:=(B.cell (p:=⟨bb,ob+k,none⟩) X).trans (cb k c4);have c7:=u.all i;have c8:=A.all k;have hq:=q.dig u A;clear ca cb W X B;generalize hxx:xs.getD i 0=xi at*;generalize hyy:ys.getD k 0=yk at*;have c1:=O hxx;have c2:=O hyy;clear hxx hyy;obtain⟨d1,d2⟩:=vj c7 c8;obtain⟨b2,rfl⟩:∃b2:World,b2=wr:=⟨_,rfl⟩;go_wp2_with fail
     go_quiet (fail)
     go_wp2_with fail;clear E g2 q1 q2 q3 q4
     go_loopw [8,9] (fun tv jv wr=>∃(j:Nat)(z:Int)(h:List Int),tv=.int .i64 z/\jv=.int .i64 (j:Int)/\vO wr g h/\R2 xs ys i k j z h/\Below g R wr/\(0<z->j<xs.length+ys.length)) (fun _ jv _=>xs.length+ys.length-(intOf jv).toNat)
     case atStart=>
      refine⟨i+k,_,h,by rw[<- c1,<- c2],by go_num,f,q.dig u A,gV l _,(q.dig u A).within u A⟩
     case round=>
      clear f q l hq;obtain⟨j,z,h,rfl,rfl,f,q,l,a5⟩:=hrel;have d5:=q.2.2.1;have d6:=q.2.2.2.1;have D:h.length=xs.length+ys.length:=q.1;have K:=O D;clear D;by_cases P:0<z
      .have hj:=a5 P
       have g2:=f.cell (j:=j) (by have:=K.out;omega);have g3:=f.free j;have d3:=q.2.1.all j;have a8:=q.step (by have:=K.out;omega);generalize hoo:h.getD j 0=o at*;have d0:=O hoo;have S:=O a8;clear hoo a8 a5 q;go_wp2
       go_roundw
       case rel=>
        refine⟨j+1,_,_,rfl,by go_num,f.set j (by have:=K.out;omega) _,S,l.setCell (aa _) _,S.within u A⟩
       case measure=>simp[intOf];omega
      .obtain rfl:z=0:=by omega
       go_wp2
       go_roundw
       case rel=>exact⟨k+1,h,by omega,by go_num,f,q.done,l⟩
       case measure=>simp[intOf];omega
    .obtain rfl:k=ys.length:=by omega
     go_wp2
     go_roundw
     case rel=>exact⟨i+1,h,by omega,by go_num,f,q.done,l⟩
     case measure=>simp[intOf];omega
  .obtain rfl:i=xs.length:=by omega
   obtain⟨D,hd,hv⟩:=q;rw[bf]at hv;have N:=f.sl (c:=xs.length+ys.length) (by omega);rw[D]at N
   have P:x*y=if s !=t then -val h else val h:=by
    obtain⟨s1,s2⟩:=b7;rw[hv,b9,c0,s1,s2];exact Ky x y
   have a2:(ip (val h).toNat).length<=600:=by
    have h1:=jU hd
    have:(val h).toNat=(x*y).natAbs:=by rw[P];split<;>omega
    rw[this];exact Q
   have Hz:=O P;have b5:=O a2;have Hd:=O hd;have b8:=O N;clear P a2 hv D hd N;go_wp2_with fail;refine(nl (!(s==t)) h _ _ _ _ _ b8 Hd (by omega) b5 Hz).mono ?_;rintro e w2 ⟨s',a',n',c',rfl,a6,C,hf⟩
   have hlt:w.heap.size+2<wr.heap.size:=by have:=r.out;have:=f.lt;omega
   have k5:=(C.cell (p:=J (w+2)) hlt).trans q5;have k6:=(C.cell (p:=⟨w.heap.size+2,1,none⟩) hlt).trans q6;have k7:=(C.frozen (p:=J (w+2)) hlt).trans q7;have k8:=(C.frozen (p:=⟨w.heap.size+2,1,none⟩) hlt).trans q8;have B:=b1.trans (l.mono (by have:=r.out;omega));have b6:=O a6;have Hf:=O hf;clear a6 hf;go_wp2_with fail;refine ar (v:=.agg #[s',Z a' n' c']) ?_ rfl ?_
   .simp[results,results174,go_sem,k5,k6]
   .exact pF b6 (B.trans (C.mono B.size)) Hf (w+2) hlt (by omega) _ _
