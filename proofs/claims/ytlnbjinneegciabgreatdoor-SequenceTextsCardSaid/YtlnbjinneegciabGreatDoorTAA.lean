import Derived.Test.YtlnbjinneegciabGreatDoorRows
import Derived.Test.YtlnbjinneegciabGreatDoorProg
import Derived.Stop.LaidErr
import Derived.Lay
import Derived.MakeChecks
import Derived.RangeFuncRecord
import Derived.StillTail
import Derived.WalkSpells
import Derived.WalkLawsBesides
import Derived.Laws.CopyOwn
import Derived.Laws.AppendOwnNone
import Derived.Deep.RegionHeld3
import Derived.Deep.AppendLies
import Derived.Shelf.Strings.OnBuilder
import Derived.Shelf.Strings.Trim
import Derived.Shelf.Strings.BuilderK
import Derived.Shelf.Utf8.RuneCount
import Derived.Shelf.Strings.Builder2Cap
import Derived.Shelf.Strconv.Itoa3
import Derived.Shelf.Strconv.ErrVarAll
import Derived.Shelf.Strconv.ParseUintEmpty
import Derived.Shelf.Strconv.ParseUint10b64
import Derived.Shelf.Strconv.ParseUint10b32
import Derived.Shelf.Strconv.ParseUint10b16
import Derived.Shelf.Strconv.ParseUint10b8
import Derived.Shelf.Strings.Shaped
import Derived.Shelf.Strings.SplitShaped
import Derived.Shelf.Strings.Runes
import Derived.Shelf.Strings.AsciiSet
import Derived.Shelf.Strings.Explode
import Derived.Shelf.Strings.Repeat
import Derived.Shelf.Strings.FieldsFuncGrows
import Derived.Shelf.Slices.Turned
import Derived.ProofKit
import Derived.OpenShut
namespace Go.Proofs.YtlnbjinneegciabGreatDoor
set_option linter.all false
set_option maxRecDepth 100000
set_option maxHeartbeats 3200000
open Go.Lib Go.ChangeShapes Go.WideShapes Go.RowKit Go.Proofs.Tryz Go.Shelf Go.ChangeAt
def V:(∀(a:Act)(d:Tmp)(v:Value),a.put (some d) v=⟨a.tmps.setIfInBounds d v,a.defers⟩)/\(∀(a:Act)(v:Value),a.put none v=a)/\(∀(α:Type)(l:List α)(i:Nat)(x:α),l.toArray.setIfInBounds i x=(l.set i x).toArray)/\(∀(α:Type)(x b:α)(l:List α),(x::l).set 0 b=b::l)/\(∀(α:Type)(x b:α)(l:List α)(n:Nat),(x::l).set (n+1) b=x::l.set n b):=⟨fun _ _ _=>rfl,fun _ _=>rfl,fun _ _ _ _=>List.setIfInBounds_toArray ..,fun _ _ _ _=>List.set_cons_zero ..,fun _ _ _ _ _=>List.set_cons_succ ..⟩
instance:Coe Bool Value:=⟨fun b=>.bool b⟩
instance:Coe ByteArray Value:=⟨fun b=>.string b⟩
structure Ue where
 (a:Option Addr) (n c:Nat)
def Z(a:Option Addr)(n c:Nat):Ue:=⟨a,n,c⟩
instance {a:Option Addr} {n c:Nat}:CoeDep Ue (Z a n c) Value:=⟨.slice a n c⟩
instance:Coe Int Value:=⟨fun n=>.int .i64 n⟩
instance:Coe Nat Value:=⟨fun n=>.int .i64 (n:Int)⟩
structure Tt where
def oZ:Tt:=⟨⟩
instance:Coe Tt Value:=⟨fun _=>.int .i64 0⟩
structure Tu where
def oN:Tu:=⟨⟩
instance:Coe Tu Value:=⟨fun _=>.slice none 0 0⟩
structure Ud where
 (n:Nat)
def J(n:Nat):Ud:=⟨n⟩
instance {n:Nat}:CoeDep Ud (J n) Addr:=⟨⟨n,0,none⟩⟩
instance {n:Nat}:CoeDep Ud (J n) (Option Addr):=⟨some ⟨n,0,none⟩⟩
structure Uf where
 (n:Nat)
def U(n:Nat):Uf:=⟨n⟩
instance {n:Nat}:CoeDep Uf (U n) Value:=⟨.pointer (some ⟨n,0,none⟩)⟩
instance:Coe World Nat:=⟨fun w=>w.heap.size⟩
def O{p:Prop}(h:p):Go.RowKit.Hid p:=h
abbrev HQ(p:Prop):=Go.RowKit.Hid p
def ag:=@Nat.le_refl
def eb:=@Nat.lt_of_lt_of_le
def ae:=@List.getElem?_eq_getElem
def af:=@Nat.le_trans
def TG:=@List.getElem?_eq_some_iff
def ah:=@List.getD_eq_getElem?_getD
def ai:=@congrArg
def aj:=@if_neg
def ak:=@beq_eq_false_iff_ne
def al:=@List.length_append
def am:=@Bool.and_eq_true
def an:=@List.all_eq_true
def aq:=@if_pos
def ar:=@Go.bodyPost_ret
def au:=@List.mem_cons_of_mem
def aw:=@decide_eq_false
def aA:=@Nat.zero_le
def aB:=@Int.natAbs_natCast
def aC:=@List.append_assoc
def aD:=@decide_eq_true_eq
def aE:=@Option.some.inj
def aF:=@List.getElem?_append_left
def aG:=@List.mem_cons_self
def aH:=@List.length_cons
def aI:=@Int.toNat_natCast
def aJ:=@List.mem_range
def aK:=@List.mem_singleton
def aL:=@List.mem_of_getElem?
def aM:=@List.take_of_length_le
def aN:=@List.map_cons
def aO:=@Option.bind_some
def aP:=@decide_eq_true
def aR:=@List.getElem?_map
def aS:=@List.mem_cons
def aT:=@List.map_append
def aU:=@List.length_map
def aV:=@Nat.zero_add
def aW:=@List.set_cons_succ
def aX:=@List.length_eq_zero_iff
def aY:=@List.getElem?_append_right
def aZ:=@List.set_cons_zero
def bc:=@Array.getElem?_toList
def bf:=@List.take_length
def bg:=@Decidable.byContradiction
def bi:=@List.not_mem_nil
def bj:=@List.mem_append
def bn:=@List.length_take
def bo:=@List.getElem?_toArray
def bq:=@Nat.pos_of_ne_zero
def bu:=@Int.tmod_eq_emod_of_nonneg
def bx:=@Nat.le_of_ble_eq_true
def bz:=@List.getElem?_eq_none
def bA:=@Option.some.injEq
def bB:=@Int.mul_le_mul_of_nonneg_right
def bC:=@Bool.false_eq_true
def bD:=@List.nil_append
def bE:=@Nat.add_zero
def bF:=@List.cons_append
def bG:=@List.append_nil
def bH:=@List.mem_or_eq_of_mem_set
def bI:=@List.map_nil
def bJ:=@Bool.eq_iff_iff
def bK:=@List.setIfInBounds_toArray
def bL:=@Int.tdiv_eq_ediv_of_nonneg
def bM:=@Nat.pow_succ
def bN:=@Int.mul_comm
def bO:=@Int.mul_assoc
def bQ:=@Go.run_underlying
def bR:=@Go.Sem.run_bind
def bT:=@List.getElem?_concat_length
def bU:=@Go.Result.andThen_ok
def bV:=@List.range_succ
def bW:=@Int.natCast_mul
def bX:=@if_true
def bY:=@Nat.le_succ
def bZ:=@of_decide_eq_true
def gu:=@Nat.mul_comm
def ce:=@List.flatten_cons
def Ui:=@Nat.mul_le_mul_right
def cp:=@List.getElem?_drop
def ct:=@List.forall_mem_cons
def cu:=@Array.getElem?_eq_some_iff
def cw:=@List.any_eq_true
def cx:=@Nat.mod_lt
def cy:=@Nat.pow_pos
def cA:=@List.take_append_drop
def cB:=@Nat.mul_le_mul
def cC:=@Array.setIfInBounds_comm
def cD:=@Nat.min_eq_left
def cE:=@Nat.le_of_lt
def cF:=@List.getElem?_set
def cG:=@List.flatten_append
def cH:=@Int.toNat_of_nonneg
def cI:=@List.length_nil
def cJ:=@Int.add_mul
def cK:=@Nat.div_lt_iff_lt_mul
def cL:=@Bool.and_eq_false_iff
def cM:=@Nat.eq_zero_or_pos
def cN:=@Nat.add_assoc
def cO:=@List.sum_cons
def cP:=@List.mem_map
def cR:=@or_false
def cS:=@List.getElem?_cons_succ
def cT:=@Go.Sem.run_pure
def cU:=@Nat.mul_lt_mul''
def cV:=@Nat.mod_eq_of_lt
def cW:=@List.getElem_mem
def cX:=@Nat.lt_of_le_of_lt
def cY:=@Nat.add_sub_cancel
def cZ:=@List.getElem?_take
def da:=@Int.emod_lt_of_pos
def dc:=@Nat.div_add_mod
def dd:=@Go.Exit.noGoto_ret
def de:=@if_false
def df:=@Nat.succ_mul
def dh:=@List.sum_nil
def di:=@Bool.not_eq_true'
def dj:=@decide_eq_decide
def dk:=@Nat.lt_succ_self
def dm:=@Nat.pow_add
def dn:=@Nat.mul_one
def dp:=@Nat.div_le_self
def dq:=@Int.emod_nonneg
def dr:=@List.length_replicate
def dt:=@List.length_range
def du:=@List.any_eq_false
def dw:=@Bool.eq_false_iff
def dz:=@beq_iff_eq
def dA:=@Nat.pow_le_pow_right
def dB:=@Nat.add_mul
def dC:=@Nat.lt_or_ge
def dD:=@List.map_map
def dE:=@List.filter_cons
def dF:=@Int.pow_succ
def dG:=@List.drop_eq_getElem_cons
def dH:=@Array.getElem?_eq_getElem
def dI:=@List.take_succ_cons
def dJ:=@List.getElem_of_mem
def dK:=@Prod.mk.injEq
def dL:=@List.length_set
def dM:=@Int.natCast_pow
def dN:=@Bool.or_eq_true
def dO:=@List.filter_append
def dP:=@Int.natCast_nonneg
def dQ:=@decide_eq_false_iff_not
def dR:=@Nat.add_sub_cancel_left
def dT:=@Nat.pow_zero
def dU:=@List.take_zero
def dV:=@List.take_succ_eq_append_getElem
def dW:=@List.drop_zero
def dX:=@List.takeWhile_append_dropWhile
def dY:=@Classical.choose_spec
def dZ:=@Nat.mul_pos
def BF:=@Nat.div_lt_of_lt_mul
def ec:=@List.eq_nil_of_length_eq_zero
def ed:=@Int.mul_le_mul_of_nonneg_left
def eh:=@Int.mul_add
def ei:=@List.cons.injEq
def eo:=@List.any_append
def er:=@List.all_append
def et:=@Int.natCast_add
def eu:=@Nat.mul_le_mul_left
def ew:=@List.replicate_succ
def ez:=@List.length_pos_iff
def eA:=@List.getD_cons_succ
def eB:=@Nat.zero_mul
def eC:=@Nat.sub_self
def eD:=@Array.getD_eq_getD_getElem?
def eE:=@List.drop_drop
def eF:=@List.all_takeWhile
def eG:=@Int.natAbs_mul
def eH:=@Int.mul_nonneg
def eI:=@Int.mul_le_mul
def eJ:=@dif_neg
def eK:=@List.take_add_one
def eL:=@Option.isSome_iff_exists
def eM:=@Nat.gcd_pos_of_pos_right
def eN:=@List.any_cons
def eO:=@Nat.div_eq_of_lt
def eP:=@List.mem_flatten
def eQ:=@List.length_drop
def eR:=@List.getElem?_replicate
def eS:=@List.getElem?_cons_zero
def eT:=@Go.wpList_plain
def eU:=@Rat.zero_mul
def eV:=@Nat.mul_zero
def eW:=@Nat.eq_zero_of_not_pos
def eX:=@Nat.div_div_eq_div_mul
def eY:=@List.append_eq_nil_iff
def eZ:=@Option.any_some
def BW:=@List.replicate_zero
def fd:=@List.getD_cons_zero
def fe:=@Array.length_toList
def VT:=@Nat.mul_assoc
def fh:=@List.all_cons
def kb:=@Int.add_assoc
def fj:=@ByteArray.ext
def fk:=@bne_iff_ne
def fm:=@List.findIdx?_eq_some_iff_getElem
def fo:=@dif_pos
def ft:=@Rat.intCast_ofNat
def fu:=@Ne.symm
def fx:=@Nat.zero_mod
def fy:=@Nat.zero_div
def fA:=@Nat.add_comm
def fB:=@Int.add_zero
def fC:=@Go.Addr.add_lit
def fD:=@Array.getElem?_setIfInBounds_ne
def fE:=@forall_eq_or_imp
def fF:=@Rat.mul_le_mul_of_nonneg_right
def fG:=@Nat.gcd_dvd_left
def fH:=@List.take_append
def fI:=@List.countP_cons
def fJ:=@List.cons_ne_nil
def fK:=@Int.pow_pos
def fL:=@Int.one_mul
def fM:=@Int.mul_sub
def fN:=@UInt8.toNat_inj
def fO:=@List.set_append
def fP:=@List.find?_cons
def fQ:=@And.imp
def fR:=@Rat.num_nonneg
def fS:=@Rat.not_lt
def fT:=@Bool.not_false
def fU:=@Array.ext'
def fV:=@List.getLast?_eq_none_iff
def fW:=@Array.getElem_modify_self
def fX:=@Rat.mkRat_def
def fY:=@List.map_id''
def fZ:=@List.head?_dropWhile_not
def gd:=@List.getElem?_take_of_lt
def ge:=@Int.ofNat_inj
def gf:=@Bool.not_true
def gg:=@Nat.exists_eq_add_of_le
def gh:=@List.getLast?_cons_cons
def gi:=@Rat.intCast_le_intCast
def gj:=@Option.map_eq_some_iff
def gk:=@Nat.sub_zero
def gm:=@List.head?_eq_getElem?
def gp:=@List.drop_eq_nil_of_le
def gq:=@List.dropWhile_sublist
def gr:=@Int.ofNat_lt
def VU:=@ByteArray.data_extract
def gv:=@List.length_singleton
def gx:=@List.dropWhile_append
def TH:=@Go.RowKit.Below.refl
def TI:=@Go.RowKit.Below.heap_setCell
def TJ:=@Go.RowKit.Below.heap_alloc
def TK:=@Go.lt_of_block
def TL:=@Go.heap_alloc_new
def TM:=@Go.IntWalk.i64_in
def VR:=@Or.inl
def VS:=@Or.inr
def jf:Nat->Nat->List UInt8
 |0,_=>[]
 |d+1,r=>if r=0 then[]else UInt8.ofNat (48+r/10^d)::jf d (r%10^d)
def oR(u d:Nat):List UInt8:=decDigits (u/10^d)++(if u%10^d=0 then[]else 46::jf d (u%10^d))
def iz(n:Int)(d:Nat):List UInt8:=(if n<0 then[45]else[])++oR n.natAbs d
def uN:Nat->Nat->List UInt8
 |0,_=>[]
 |d+1,r=>UInt8.ofNat (48+r/10^d%10)::uN d (r%10^d)
def wZ(b:UInt8):Bool:=b==48
def mQ(l:List UInt8):List UInt8:=(l.reverse.dropWhile wZ).reverse
def ED(k:Nat):mQ (List.replicate k 48)=[]:=by
 unfold mQ;rw[List.reverse_replicate]
 have:(List.replicate k (48:UInt8)).dropWhile wZ=[]:=by
  induction k with
  |zero=>rfl
  |succ k a=>rw[ew];exact a
 rw[this];rfl
def GQ{b:UInt8}{l:List UInt8}(h:b≠48):mQ (b::l)=b::mQ l:=by
 have hb:wZ b=false:=by unfold wZ;simpa using h
 unfold mQ;rw[List.reverse_cons,gx]
 cases hd:(l.reverse.dropWhile wZ)with
 |nil=>simp[List.dropWhile,hb]
 |cons x xs=>simp
def Be{b:UInt8}{l:List UInt8}(h:mQ l≠[]):mQ (b::l)=b::mQ l:=by
 unfold mQ at h⊢;rw[List.reverse_cons,gx]
 cases hd:(l.reverse.dropWhile wZ)with
 |nil=>rw[hd]at h;exact absurd rfl h
 |cons x xs=>simp
def xS:∀d r,(uN d r).length=d
 |0,_=>rfl
 |d+1,r=>by rw[uN,aH,xS d]
def BZ:∀d,uN d 0=List.replicate d 48
 |0=>rfl
 |d+1=>by rw[uN,fy,fx,fx,BZ d];rfl
def vv{k:Nat}(h1:0<k)(h2:k<10):UInt8.ofNat (48+k)≠48:=by
 intro h;have:=ai UInt8.toNat h;rw[UInt8.toNat_ofNat']at this;have e:(48:UInt8).toNat=48:=rfl;rw[e]at this;omega
def B3:∀(d r:Nat),r<10^d->mQ (uN d r)=jf d r
 |0,_,_=>rfl
 |d+1,r,h=>by
  have a:0<10^d:=cy (by omega)
  have g:r/10^d<10:=by
   rw[cK a];rw[bM]at h;omega
  rw[uN,jf,cV g];by_cases b:r=0
  .rw[aq b,b,fy,fx,BZ]
   exact ED (d+1)
  .rw[aj b]
   have c:=B3 d (r%10^d) (cx _ a);by_cases j:r/10^d=0
   .have e:r%10^d=r:=cV (by
     obtain h'|h':=dC r (10^d)
     .exact h'
     .have:=Nat.div_pos h' a;omega)
    have f:mQ (uN d (r%10^d))≠[]:=by
     rw[c,e]
     cases d with
     |zero=>
      have i:=cx r a;rw[e,dT]at i;omega
     |succ d=>rw[jf,aj b];exact fJ _ _
    rw[Be f,c]
   .rw[GQ (vv (bq j) g),c]
def pP:∀(d u:Nat),10^d<=u->decDigits u=decDigits (u/10^d)++uN d (u%10^d)
 |0,u,_=>by simp[uN]
 |d+1,u,h=>by
  have e:0<10^d:=cy (by omega);have h1:10^d<=u:=af (dA (by omega) (by omega)) h
  have a:¬u/10^d<10:=by
   intro hlt;rw[cK e]at hlt;rw[bM]at h;omega
  rw[pP d u h1,decDigits,eJ a,uN,bM,eX,aC];congr 1
  have b:u% (10^d*10)/10^d%10=u/10^d%10:=by
   rw[Nat.mod_mul_right_div_self,Nat.mod_mod]
  have c:u% (10^d*10)%10^d=u%10^d:=Nat.mod_mod_of_dvd _ (Nat.dvd_mul_right _ _);rw[b,c];rfl
def zB:∀{d u:Nat},10^d<=u->d+1<=nDigits u
 |0,u,_=>nDigits_pos u
 |d+1,u,h=>by
  have hb:¬u<10:=by
   have a:0<10^d:=cy (by omega);rw[bM]at h;omega
  rw[nDigits_big hb];have:=zB (d:=d) (u:=u/10) (by rw[bM]at h;omega);omega
def mJ:∀{d u:Nat},u<10^d->1<=d->nDigits u<=d
 |0,_,_,h=>absurd h (by omega)
 |d+1,u,h,_=>by
  by_cases hb:u<10
  .rw[nDigits_small hb];omega
  .rw[nDigits_big hb]
   have h2:u/10<10^d:=by rw[bM]at h;omega
   have a:1<=d:=by
    cases d with
    |zero=>rw[dT]at h2;omega
    |succ d=>omega
   have:=mJ h2 a;omega
def EE:∀(d u:Nat),u<10^d->1<=d->uN d u=List.replicate (d-nDigits u) 48++decDigits u
 |0,_,_,h=>absurd h (by omega)
 |d+1,u,h,_=>by
  have f:0<10^d:=cy (by omega)
  have b:u/10^d<10:=by
   rw[cK f];rw[bM]at h;omega
  by_cases c:10^d<=u
  .have e:nDigits u=d+1:=nDigits_unique d u c h
   rw[e,eC,BW,bD,pP d u c,uN,cV b];rw[decDigits,fo b];rfl
  .have a:u<10^d:=by omega
   rw[uN,eO a,cV a]
   cases d with
   |zero=>
    have:u=0:=by rw[dT]at a;omega
    subst this;rw[nDigits_small (by omega),decDigits,fo (by omega)];rfl
   |succ d=>
    rw[EE (d+1) u a (by omega)]
    have g:nDigits u<=d+1:=by
     obtain hlt|hge:=dC (d+1) (nDigits u)
     .have h1:=mJ a (by omega);omega
     .exact hge
    rw[show d+1+1-nDigits u=(d+1-nDigits u)+1 by omega,ew];rfl
def QS(d u:Nat):List.replicate (d+1-(decDigits u).length) 48++decDigits u=decDigits (u/10^d)++uN d (u%10^d):=by
 rw[decDigits_length];have e:0<10^d:=cy (by omega);by_cases b:10^d<=u
 .have c:d+1<=nDigits u:=zB b
  rw[show d+1-nDigits u=0 by omega,BW,bD,pP d u b]
 .have a:u<10^d:=by omega
  have h2:u<10^(d+1):=eb a (dA (by omega) (by omega));rw[<- EE (d+1) u h2 (by omega),eO a,cV a,uN,eO a,cV a,decDigits,fo (by omega)];rfl
def rO(s:List UInt8)(d:Nat):List UInt8:=
 let z:=List.replicate (d+1-s.length) 48++s
 let p:=mQ (z.drop (z.length-d))
 z.take (z.length-d)++(if p=[]then[]else 46::p)
def nL:∀{d r:Nat},r<10^d->(jf d r=[]↔r=0)
 |0,r,h=>by rw[dT]at h;exact⟨fun _=>by omega,fun _=>rfl⟩
 |d+1,r,_=>by
  rw[jf];by_cases h:r=0
  .rw[aq h];exact⟨fun _=>h,fun _=>rfl⟩
  .rw[aj h];exact⟨fun e=>(fJ _ _ e).elim,fun e=>(h e).elim⟩
def EF(d u:Nat):rO (decDigits u) d=oR u d:=by
 have b:0<10^d:=cy (by omega);have a:=cx u b;unfold rO oR;simp only[];rw[QS,al,xS,cY];rw[List.drop_left' rfl,List.take_left' rfl,B3 d _ a];congr 1;by_cases h:u%10^d=0
 .rw[aq h,aq ((nL a).2 h)]
 .rw[aj h,aj (fun e=>h ((nL a).1 e))]
def nw{k:Nat}(h:k<10):decDigits k=[UInt8.ofNat (48+k)]:=by rw[decDigits,fo h]
def Y0{d r:Nat}(b:r≠0)(h:r<10^(d+1)):jf (d+1) r=decDigits (r/10^d)++jf d (r%10^d):=by
 have a:0<10^d:=cy (by omega);rw[jf,aj b,nw (by rw[cK a];rw[bM]at h;omega)];rfl
def Bu{H:Type}{enc:TypeId×Value->H}{a:Assume}{C:Checked}{os:Os}{f:FuncId}{fn:Func}{s:ChangeSpec}{m:List PathCond}{b n d l:Bool}{X:World->Array Value->Prop}
 (D:∀(w w':World)(args:Array Value),w.heap=w'.heap->X w args->X w' args)
 (own:ownKnob C.prog.godebug=none)(h:os.Started)(o:C.prog.inits.idxOf? f=none)(y:C.prog.funcs[f]? =some fn)
 (k:∃(w:World)(tape:Tape)(i:Input),w.os=os/\(w.forCall tape i).Shaped C.prog/\i.vars=[]/\Input.okWide C.prog (w.forCall tape i) .any w f i/\
   ((s.pre enc C.prog fn m b (w.forCall tape i).memory i.args/\X (w.forCall tape i).memory i.args)/\sizedMet enc C.prog fn (OpenSpec.ofChange s) b (w.forCall tape i).memory i.args)/\a.holds C.prog (lone (Frame.enter C.prog f i.args .normal) [] (w.forCall tape i)))
 (g:∀(W:World)(base:Nat)(args:Array Value)(ds u:List (DataW H))(c:List MemPlace),
   (∀(j:Nat) t v,fn.params[j]? =some t->args[j]? =some v->Value.okWide C.prog W .any base t v)->
   DataW.Whole enc C.prog fn.params.toList s.vars b W args.toList ds u c->X W args->W.ShapedOpen C.prog->
   Calls C.prog f args W fun e W'=>∃v,e=.returned v/\s.post enc C.prog fn b n d l W args v W'):
 ReturnsInHanded a C os f .any (fun w args=>(s.pre enc C.prog fn m b w args/\X w args)/\sizedMet enc C.prog fn (OpenSpec.ofChange s) b w args) (s.post enc C.prog fn b n d l):=by
 refine returnsInHanded_of_calls own h o k ?_;intro w tape i _ A _ z q _;obtain⟨_,_,_,x,p,_,_,_,_,r⟩:=z;have e:x=fn:=aE (p.symm.trans y);subst e;obtain⟨⟨⟨ds,u,c,hw,_⟩,E⟩,_⟩:=q;have B:=DataW.Whole.of_heap (w':=w.forCall tape i) (by rfl) hw
 refine(g (w.forCall tape i) w i.args ds u c r B (D _ _ _ (by rfl) E) A).mono fun e W' ⟨v,he,hp⟩=>?_
 subst he;exact ChangeSpec.post_blind hp
def val:List Int->Int
 |[]=>0
 |d::l=>d+1000000000*val l
def ms(l:List Int):Prop:=∀j,j<l.length->0<=l.getD j 0/\l.getD j 0<1000000000
def ms.nil:ms []:=fun j h=>by simp at h
def ms.head{d:Int}{l:List Int}(h:ms (d::l)):0<=d/\d<1000000000:=by simpa using h 0 (by simp)
def ms.tail{d:Int}{l:List Int}(h:ms (d::l)):ms l:=fun j a=>by simpa using h (j+1) (by simpa using a)
def ms.cons{d:Int}{l:List Int}(a:0<=d/\d<1000000000)(h:ms l):ms (d::l):=fun j b=>by
 cases j with
 |zero=>simpa using a
 |succ j=>simpa using h j (by simpa using b)
def ms.all{l:List Int}(h:ms l)(j:Nat):0<=l.getD j 0/\l.getD j 0<1000000000:=by
 by_cases a:j<l.length
 .exact h j a
 .rw[ah,bz (by omega)];simp
def ms.append{l m:List Int}(b:ms l)(c:ms m):ms (l++m):=fun j _=>by
 by_cases a:j<l.length
 .rw[ah,aF a,<- ah];exact b j a
 .rw[ah,aY (by omega),<- ah];exact c.all _
def ms.take{l:List Int}(h:ms l)(k:Nat):ms (l.take k):=fun j b=>by
 have a:j<k:=by have:=List.length_take_le k l;omega
 have e:(l.take k).getD j 0=l.getD j 0:=by simp[ah,a]
 rw[e];exact h.all j
def ms.drop{l:List Int}(h:ms l)(k:Nat):ms (l.drop k):=fun j _=>by
 have e:(l.drop k).getD j 0=l.getD (k+j) 0:=by simp[ah,cp]
 rw[e];exact h.all _
def jU{l:List Int}(h:ms l):0<=val l:=by
 induction l with
 |nil=>simp[val]
 |cons d l a=>have:=h.head;have:=a h.tail;simp only[val];omega
def oD(l m:List Int):val (l++m)=val l+1000000000^l.length*val m:=by
 induction l with
 |nil=>simp[val]
 |cons d l a=>simp only[bF,val,a,aH,dF,eh];rw[bN (1000000000^l.length) 1000000000,bO];omega
def rZ{l:List Int}(h:ms l):val l<1000000000^l.length:=by
 induction l with
 |nil=>simp[val]
 |cons d l a=>have:=h.head;have:=a h.tail;simp only[val,aH,dF];omega
def uQ(n:Nat):val (List.replicate n 0)=0:=by
 induction n with
 |zero=>rfl
 |succ n a=>simp only[ew,val,a];omega
def Jj{l:List Int}{i:Nat}(h:i<l.length)(v:Int):val (l.set i v)=val l+(v-l.getD i 0)*1000000000^i:=by
 induction l generalizing i with
 |nil=>simp at h
 |cons d l a=>
  cases i with
  |zero=>simp only[aZ,val,fd,Int.pow_zero];omega
  |succ i=>
   simp only[aW,val,eA,a (by simpa using h),dF];rw[<- bO,eh,bN (_*_) 1000000000];omega
def oY{l:List Int}{k:Nat}(h:k<l.length):val (l.take (k+1))=val (l.take k)+l.getD k 0*1000000000^k:=by
 have e:l.take (k+1)=l.take k++[l.getD k 0]:=by
  rw[eK,ae h];simp[ah,ae h]
 rw[e,oD,bn,cD (by omega)];simp only[val,Int.mul_zero,fB];rw[bN]
def Ea{l:List Int}{k:Nat}(h:k<l.length):val (l.drop k)=l.getD k 0+1000000000*val (l.drop (k+1)):=by
 rw[dG h];simp[val,ah,ae h]
def ip(n:Nat):List Int:=if n=0 then[]else((n%1000000000:Nat):Int)::ip (n/1000000000)
termination_by n
decreasing_by omega
def jP:ip 0=[]:=by rw[ip];simp
def nU{n:Nat}(h:0<n):ip n=((n%1000000000:Nat):Int)::ip (n/1000000000):=by rw[ip,aj (by omega)]
def iU(n:Nat):ms (ip n):=by
 induction n using Nat.strongRecOn with
 |_ n ih=>
  by_cases h:n=0
  .subst h;rw[jP];exact ms.nil
  .rw[nU (by omega)];exact ms.cons (by omega) (ih _ (by omega))
def iY(n:Nat):val (ip n)=n:=by
 induction n using Nat.strongRecOn with
 |_ n ih=>
  by_cases h:n=0
  .subst h;rw[jP];rfl
  .rw[nU (by omega)];simp only[val,ih _ (show n/1000000000<n by omega)];omega
def Sg(l:List Int):Prop:=0<l.length->l.getD (l.length-1) 0≠0
def My(n:Nat):Sg (ip n):=by
 induction n using Nat.strongRecOn with
 |_ n ih=>
  by_cases h:n=0
  .subst h;rw[jP];intro h;simp at h
  .rw[nU (by omega)]
   intro _;by_cases h2:n/1000000000=0
   .rw[h2,jP];simp;omega
   .have:=ih _ (show n/1000000000<n by omega)
    rw[nU (n:=n/1000000000) (by omega)]at this⊢;simpa using this (by simp)
def Sg.tail{d:Int}{l:List Int}(h:Sg (d::l)):Sg l:=by
 intro a;have:=h (by simp)
 cases l with
 |nil=>simp at a
 |cons e l=>simpa using this
def Mz{l:List Int}(h:ms l)(a:Sg l):ip (val l).toNat=l:=by
 induction l with
 |nil=>simp only[val];exact jP
 |cons d l g=>
  have h1:=h.head;have h2:=jU h.tail;have h3:=g h.tail a.tail
  have e:0<(val (d::l)).toNat:=by
   simp only[val];by_cases h0:d=0
   .have:l≠[]:=by rintro rfl;exact a (by simp) (by simpa using h0)
    by_cases f:val l=0
    .rw[f]at h3;rw[Int.toNat_zero,jP]at h3;exact absurd h3.symm this
    .omega
   .omega
  rw[nU e]
  have b:(((val (d::l)).toNat%1000000000:Nat):Int)=d:=by simp only[val];omega
  have c:(val (d::l)).toNat/1000000000=(val l).toNat:=by simp only[val];omega
  rw[b,c,h3]
def JX{l:List Int}{k j:Nat}(h:j<k):(l.take k).getD j 0=l.getD j 0:=by
 simp[ah,h]
def AY{l:List Int}{k:Nat}(h:k<l.length)(a:l.getD k 0=0):val (l.take (k+1))=val (l.take k):=by
 rw[oY h,a];omega
def MA{l:List Int}{k:Nat}(h:k<=l.length)(c:k=0\/l.getD (k-1) 0≠0):Sg (l.take k):=by
 intro b
 have a:(l.take k).length=k:=by rw[bn,cD h]
 rw[a]at b⊢;rw[JX (by omega)];exact c.resolve_left (by omega)
def CT{l:List Int}{k:Nat}{n:Nat}(a:ms l)(h:k<=l.length)(c:k=0\/l.getD (k-1) 0≠0)(b:val (l.take k)=n):l.take k=ip n:=by
 rw[<- Mz (a.take k) (MA h c),b];rfl
def iB{n k:Nat}(h:n<1000000000^k):(ip n).length<=k:=by
 induction k generalizing n with
 |zero=>have:n=0:=by simpa using h
        subst this;rw[jP];simp
 |succ k a=>
  by_cases h0:n=0
  .subst h0;rw[jP];simp
  .rw[nU (by omega),aH]
   have:n/1000000000<1000000000^k:=by rw[bM]at h;exact BF (by rw[gu];exact h)
   have:=a this;omega
def Wu(n:Nat):n<1000000000^(ip n).length:=by
 have h:=rZ (iU n);rw[iY]at h
 have e:((1000000000^(ip n).length:Nat):Int)=(1000000000:Int)^(ip n).length:=by rw[dM];rfl
 rw[<- e]at h;exact gr.1 h
def iM{n m:Nat}(h:n<=m):(ip n).length<=(ip m).length:=
 iB (cX h (Wu m))
def jC{n:Nat}:(ip n).length=0↔n=0:=by
 constructor
 .intro h;have:=Wu n;rw[h]at this;omega
 .rintro rfl;rw[jP];rfl
def qS(x y:List Int):Nat->Int
 |0=>0
 |k+1=>if x.getD k 0=y.getD k 0 then qS x y k else x.getD k 0-y.getD k 0
def yW{x y:List Int}(c:ms x)(d:ms y):∀k,k<=x.length->k<=y.length->
 ((0<qS x y k↔val (y.take k) <val (x.take k))/\(qS x y k<0↔val (x.take k) <val (y.take k))/\ -1000000000<qS x y k/\qS x y k<1000000000)
 |0,_,_=>by simp[qS]
 |k+1,h1,h2=>by
  have e:=yW c d k (by omega) (by omega);rw[oY (by omega),oY (by omega)];have a1:=c.all k;have a2:=d.all k;have b1:=rZ (c.take k);have b2:=rZ (d.take k);have c1:=jU (c.take k);have c2:=jU (d.take k);rw[bn,cD (by omega)]at b1 b2;simp only[qS];generalize(1000000000:Int)^k=p at*;generalize val (x.take k)=u at*;generalize val (y.take k)=v at*;generalize x.getD k 0=a at*;generalize y.getD k 0=b at*;by_cases h:a=b
  .subst h;rw[aq rfl];refine⟨by rw[e.1];omega,by rw[e.2.1];omega,e.2.2.1,e.2.2.2⟩
  .rw[aj h]
   have f:0<p:=by omega
   obtain hlt|hgt:=Int.lt_or_gt_of_ne h
   .have:(a+1)*p<=b*p:=bB (by omega) (by omega)
    rw[cJ,fL]at this;exact⟨by omega,by omega,by omega,by omega⟩
   .have:(b+1)*p<=a*p:=bB (by omega) (by omega)
    rw[cJ,fL]at this;exact⟨by omega,by omega,by omega,by omega⟩
def JY(x y:List Int):Int:=if x.length=y.length then qS x y x.length else(x.length:Int)-y.length
def JZ{m n:Nat}:(0<JY (ip m) (ip n)↔n<m)/\(JY (ip m) (ip n) <0↔m<n):=by
 unfold JY;by_cases h:(ip m).length=(ip n).length
 .rw[aq h]
  have:=yW (iU m) (iU n) (ip m).length (ag _) (by omega);rw[bf,h,bf,iY,iY]at this;rw[h];exact⟨by rw[this.1];omega,by rw[this.2.1];omega⟩
 .rw[aj h]
  constructor
  .constructor
   .intro h2
    apply bg;intro h3
    have:=iM (show m<=n by omega);omega
   .intro h2
    have:=iM (show n<=m by omega);omega
  .constructor
   .intro h2
    apply bg;intro h3
    have:=iM (show n<=m by omega);omega
   .intro h2
    have:=iM (show m<=n by omega);omega
def NP(P:Program)(l:Nat)(R:Ending->World->Prop)(e:Exit)(a:Act)(w:World):Prop:=
 match e with
 | .panic b=>a.defers=[]/\R (.panicked b) w
 |e=>roundPost P l R e a w
def DD{F:Fence}{n:Nat}{P:Program}{l:Nat}{f:FuncId}{fn:Func}{tmps:Array Value}{assign body:Code}{w:World}{R:Ending->World->Prop}(Q:P.funcs[f]? =some fn)(N:F.fn f)
 (h:assign.wpIn (F.inRound l) n P (Exit.then (fun K S=>∃M,(Instr.beginRound l).run P S=.ok () M/\body.wpIn (F.inRound l) n P (NP P l R) K M) (fun _ _ _=>False)) {tmps:=tmps,defers:=[]} w):
 RoundIn F n P l f tmps assign body w R:=by
 refine⟨N,fun c cs A=>?_⟩;obtain⟨b,hb⟩:∃b:Frame,b={(default:Frame)with fn:=f,kind:=.normal,roundOf:=some l}:=⟨_,rfl⟩
 have E:b.fn=f:=by rw[hb]
 have x:b.kind=.normal:=by rw[hb]
 have g:b.roundOf=some l:=by rw[hb]
 have j:(F.inRound l).fn b.fn:=by rw[E];exact N
 have s:Frame.round l f tmps assign body .normal=b.atR {tmps:=tmps,defers:=[]} [.code assign,.beginRound,.code body]:=by
  rw[hb];simp[Frame.round,Frame.atR]
 have m:(F.inRound l).room ((c::cs).length+1+n):=A;rw[s];obtain⟨e,K,S,o,C⟩:=h b [.beginRound,.code body] (c::cs) g j m
 match e,o,C with
 | .normal,⟨M,hgo,hbody⟩,C=>
   have i:=StepsIn.trans C (.one (fenced_calm (fr:=b.atR K [.beginRound,.code body]) j m rfl) (stepR_beginRound g hgo));obtain⟨W,z,T,B,D⟩:=hbody b [] (c::cs) g j m
   match W,B,D with
   | .panic d,⟨X,p⟩,⟨y,q⟩=>
     have H:({b.atR z y with mode:=.panicking d}:Frame).leaving P T (.panicked d):=⟨rfl,X,fn,by show P.funcs[b.fn]? =some fn;rw[E];exact Q⟩;exact⟨.panicked d,T,p,i.trans (q.trans (.one (fenced_leaving (fr:={b.atR z y with mode:=.panicking d}) j m H) (step_leave_panicked H)))⟩
   | .normal,⟨v,u,a,p⟩,q=>exact⟨.returned v,u,p,i.trans (StepsIn.trans q (.one (fenced_calm (fr:=b.atR z []) j m rfl) (stepR_round_end g x a)))⟩
   | .ret,⟨v,u,a,p⟩,q=>
     obtain⟨k,r⟩:=q.2 (by rw[g];rfl);exact⟨.returned v,u,p,i.trans (r.trans (.one (fenced_calm (fr:=b.atR z (.code .ret::k)) j m rfl) (stepR_round_ret g x a)))⟩
   | .exit id,⟨v,u,a,p⟩,q=>
     obtain⟨k,L,r⟩:=q.2 (by rw[g];rfl) rfl;exact⟨.returned v,u,p,i.trans (r.trans (.one (fenced_calm (fr:=b.atR z (.code (.exit id)::k)) j m rfl) (stepR_round_exit g x L a)))⟩
   | .goto t,⟨v,u,a,p⟩,q=>
     obtain⟨k,L,r⟩:=q.2 (by rw[g];rfl) rfl;exact⟨.returned v,u,p,i.trans (r.trans (.one (fenced_calm (fr:=b.atR z (.code (.goto t)::k)) j m rfl) (stepR_round_goto g x L a)))⟩
   | .outgrown,B,_=>exact B.elim
 | .exit _,o,_=>exact o.elim
 | .goto _,o,_=>exact o.elim
 | .ret,o,_=>exact o.elim
 | .panic _,o,_=>exact o.elim
 | .outgrown,o,_=>exact o.elim
def ma(b:UInt8):Bool:=decide (48<=b.toNat/\b.toNat<=57)
def mX(a:Nat)(l:List UInt8):Nat:=l.foldl (fun a b=>10*a+(b.toNat-48)) a
def mE(a:Nat):mX a []=a:=rfl
def lO(a:Nat)(b:UInt8)(l:List UInt8):mX a (b::l)=mX (10*a+(b.toNat-48)) l:=by
 unfold mX;rw[List.foldl_cons]
attribute [irreducible] mX
def qZ:∀(l m:List UInt8)(a:Nat),mX a (l++m)=mX (mX a l) m
 |[],m,a=>by rw[mE,bD]
 |b::l,m,a=>by rw[bF,lO,qZ l m,lO]
def lA{k:Nat}(h:k<10):(UInt8.ofNat (48+k)).toNat=48+k:=by
 rw[UInt8.toNat_ofNat'];omega
def xd{k:Nat}(h:k<10):ma (UInt8.ofNat (48+k))=true:=by
 unfold ma;rw[lA h];simp;omega
def vY{b:UInt8}(h:ma b=true):∃k,k<10/\b=UInt8.ofNat (48+k):=by
 unfold ma at h;have h:=bZ h;refine⟨b.toNat-48,by omega,?_⟩;rw[show 48+(b.toNat-48)=b.toNat by omega];exact(UInt8.ofNat_toNat).symm
def tQ(u:Nat):mX 0 (decDigits u)=u:=by
 induction u using Nat.strongRecOn with
 |_ u ih=>
  by_cases h:u<10
  .rw[nw h,lO,mE,lA h];omega
  .rw[decDigits,eJ h,qZ,ih (u/10) (by omega),lO,mE,lA (by omega)];omega
def nn(u:Nat):∀b∈decDigits u,ma b=true:=by
 induction u using Nat.strongRecOn with
 |_ u ih=>
  by_cases h:u<10
  .rw[nw h];intro b hb;rw[aK.1 hb];exact xd h
  .rw[decDigits,eJ h]
   intro b hb
   obtain hb|hb:=bj.1 hb
   .exact ih (u/10) (by omega) b hb
   .rw[aK.1 hb];exact xd (by omega)
section
variable{R:World->World->Prop}{P:Program}{ops:Array Oper}{Q:Exit->Act->World->Prop}{md:Region.Mode}
structure Ym (R:World->World->Prop):Prop where
 refl:∀w,R w w
 trans:∀a b c,R a b->R b c->R a c
def Pb(R:World->World->Prop)(P:Program)(md:Region.Mode)(ops:Array Oper)(Q:Exit->Act->World->Prop)(n:Nat):Nat->Array Bool->Act->World->Prop
 |0,listed,a,w=>Region.ready md ops listed=[]/\Q .normal a w
 |fuel+1,listed,a,w=>
  (Region.ready md ops listed=[]->Q .normal a w)/\
  ∀i∈Region.ready md ops listed,wpOp P ops Q i (fun a' w'=>(i<n->R w w')/\Pb R P md ops Q n fuel (listed.setIfInBounds i true) a' w') a w
def vg{n:Nat}:∀(fuel:Nat)(b:Array Bool)(a:Act)(w:World),Pb R P md ops Q n fuel b a w->wpAny P md ops Q fuel b a w
 |0,_,_,_,h=>h
 |fuel+1,_,_,_,h=>⟨h.1,fun i hi=>wpOp_mono (fun a' w' c=>vg fuel _ a' w' c.2) (h.2 i hi)⟩
def Yg{l:Array Bool}{j:Nat}(h:j∈Region.ready md ops l):j<ops.size:=by
 obtain⟨_,_,h,_⟩:=mem_ready.1 h;exact(cu.1 h).1
def J4(B:Ym R){n i:Nat}{A:Oper}{v:Value}{f:Bool}(s:Array Bool->Prop)(K:∀l j,s l->j∈Region.ready md ops l->(f=false->j<n)->s (l.setIfInBounds j true))
 (hi:ops[i]? =some A)(u:∀(j:Nat)(o:Oper) cs b,ops[j]? =some o->o.op≠ .select cs b)
 (z:f=false-> ∀l,s l->l.getD i true=false-> ∀j,n<=j->j ∉ Region.ready md ops l)
 (hQ:∀c a w,Q (.panic c) (a.put A.dst v) w->Q (.panic c) a w):
 ∀(fuel:Nat)(d:Array Bool)(a:Act)(w:World),s d->
  (∀j r,ops[j]? =some r->j≠i->d.getD j true=false->(∀e∈r.after,Region.binds md e=true->e.on≠i)->A.apart ops r=true)->
  i∈Region.ready md ops d->YieldsIf P ops (fun x=>f=true\/R w x) A v a->
  Pb R P md ops Q n fuel (d.setIfInBounds i true) (a.put A.dst v) w->Pb R P md ops Q n (fuel+1) d a w:=by
 intro fuel
 induction fuel with
 |zero=>
  intro d a w _ _ q L H;refine⟨fun h=>(by rw[h]at q;cases q),fun j y=>?_⟩;by_cases g:j=i
  .subst g;exact L.wpOp hi (VS (B.refl _)) ⟨fun _=>B.refl _,H⟩
  .have:=ready_mono y g
   rw[H.1]at this;cases this
 |succ fuel ih=>
  intro d a w S m q L H;have p:=(mem_ready.1 q).1;refine⟨fun h=>(by rw[h]at q;cases q),fun j y=>?_⟩;by_cases g:j=i
  .subst g;exact L.wpOp hi (VS (B.refl _)) ⟨fun _=>B.refl _,H⟩
  .have h1:=H.2 j (ready_mono y g)
   obtain⟨t,r,C,D⟩:=mem_ready.1 y
   have E:∀e∈r.after,Region.binds md e=true->e.on≠i:=fun e he hb T=>by
    have h1:=D e he hb;rw[T,getD_both p]at h1;cases h1
   have h2:=wpOp_putIf C (m j r C g t E) (fun cs b=>u i A cs b hi) (fun cs b=>u j r cs b C) hQ L h1
   have N:f=false->j<n:=fun F=>by
    obtain h|h:=dC j n
    .exact h
    .exact absurd y (z F _ S p j h)
   refine wpOp_mono (fun a' w' h3=>⟨h3.2.1,ih (d.setIfInBounds j true) a' w' (K _ _ S y N) (fun k ok hk W p X=>?_) (ready_mono q (fu g)) (h3.1.imp (fun⟨h1,h2⟩=>⟨h1,fun x hx=>h2 x ?_⟩) id) ?_⟩) h2
   .refine m k ok hk W ?_ X
    by_cases M:j=k
    .subst M;exact t
    .rw[getD_set_ne true M]at p;exact p
   .rw[cC _ _ g]
    exact h3.2.2
   .cases F:f with
    |true=>exact VR rfl
    |false=>exact VS (B.trans _ _ _ (h3.2.1 (N F)) (Or.resolve_left hx (by rw[F];decide)))
def vN(md:Region.Mode)(ops:Array Oper)(n:Nat):List (Nat×Bool)->Array Bool->Bool
 |[],listed=>Region.seqB md ops (ops.size-n) n listed
 |(i,t)::rest,listed=>(if t then(Region.ready md ops listed).contains i&&Region.free md ops listed i else decide (Region.ready md ops listed=[i]))&&decide (i<n)&&vN md ops n rest (listed.setIfInBounds i true)
def tA(R:World->World->Prop)(P:Program)(ops:Array Oper)(Q:Exit->Act->World->Prop)(n:Nat):List (Nat×Bool)->Act->World->Prop
 |[],a,w=>wpList P ops Q (ops.toList.drop n) a w
 |(i,true)::rest,a,w=>∃o v,ops[i]? =some o/\YieldsIf P ops (fun x=>false=true\/R w x) o v a/\(∀c a w,Q (.panic c) (a.put o.dst v) w->Q (.panic c) a w)/\tA R P ops Q n rest (a.put o.dst v) w
 |(i,false)::rest,a,w=>wpOp P ops Q i (fun a' w'=>R w w'/\tA R P ops Q n rest a' w') a w
def vh{n:Nat}{Q':Exit->Act->World->Prop}:∀(l:List Oper)(k:Nat)(b:Array Bool)(a:Act)(w:World),n<=k->(∀j,l[j]? =ops[k+j]?)->
 Region.seqB md ops l.length k b=true->wpList P ops Q' l a w->Pb R P md ops Q' n l.length b a w
 |[],_,_,_,_,_,_,hB,h=>⟨by simpa[Region.seqB]using hB,h⟩
 |o::l,k,b,a,w,hk,hl,hB,h=>by
  have h0:ops[k]? =some o:=by simpa using(hl 0).symm
  simp only[aH,Region.seqB,am,aD]at hB;refine⟨fun h1=>(by rw[hB.1]at h1;cases h1),fun i hi=>?_⟩;rw[hB.1]at hi
  have c:i=k:=by simpa using hi
  subst c
  have hw:wpOp P ops Q' i (wpList P ops Q' l) a w:=by unfold wpOp;simp only[h0];exact h
  exact wpOp_mono (fun a' w' d=>⟨fun hlt=>absurd hlt (by omega),vh l (i+1) _ a' w' (by omega) (fun j=>by have:=hl (j+1);simpa[cN,fA 1 j]using this) hB.2 d⟩) hw
def vi(k:Ym R){n:Nat}(d:Region.noSelect ops=true)(q:Region.sinkB md ops n=true)(m:Region.chainB md ops n=true)(p:n<ops.size):
 ∀(ord:List (Nat×Bool))(b:Array Bool)(a:Act)(w:World),HeadInv md ops n b->vN md ops n ord b=true->tA R P ops Q n ord a w->
  Pb R P md ops Q n (ord.length+(ops.size-n)) b a w
 |[],b,a,w,_,hB,h=>by
  have:=vh (R:=R) (md:=md) (n:=n) (Q':=Q) (ops.toList.drop n) n b a w (ag _) (fun j=>by simp[cp]) (by simpa[vN]using hB) h;simpa using this
 |(i,true)::rest,b,a,w,c,hB,h=>by
  obtain⟨o,v,t,y,x,h⟩:=h;simp only[vN,bX,am,aD]at hB;obtain⟨⟨⟨h1,h2⟩,h3⟩,g⟩:=hB
  have f:i∈Region.ready md ops b:=by simpa using h1
  have:=J4 k (HeadInv md ops n) (fun l j h e s=>h.set e (s rfl)) t (Region.noSelect_spec d) (fun _ l c u=>tail_waits q m p c _ i rfl h3 u) x _ b a w c (Region.free_spec t h2) f y (vi k d q m p rest _ _ w (c.set f h3) g h);rw[aH,show rest.length+1+(ops.size-n)=rest.length+(ops.size-n)+1 by omega];exact this
 |(i,false)::rest,b,a,w,c,hB,h=>by
  simp only[vN,bC,de,am,aD]at hB;obtain⟨⟨h1,h3⟩,g⟩:=hB
  have f:i∈Region.ready md ops b:=by rw[h1];simp
  rw[aH,show rest.length+1+(ops.size-n)=rest.length+(ops.size-n)+1 by omega];refine⟨fun h0=>(by rw[h0]at h1;cases h1),fun j e=>?_⟩;rw[h1]at e
  obtain rfl:j=i:=by simpa using e
  exact wpOp_mono (fun a' w' r=>⟨fun _=>r.1,vi k d q m p rest _ a' w' (c.set f h3) g r.2⟩) h
def wP(md:Region.Mode)(ops:Array Oper)(n:Nat)(ord:List (Nat×Bool)):Bool:=
 Region.noSelect ops&&decide (n<ops.size)&&decide (ord.length=n)&&Region.sinkB md ops n&&Region.chainB md ops n&&vN md ops n ord (Array.replicate ops.size false)
def Yu(f:Ym R){id:Nat}{a:Act}{w:World}(n:Nat)(ord:List (Nat×Bool))(i:P.follows .mixedOrders=true)(e:wP .any ops n ord=true)
 (h:tA R P ops Q n ord a w.drew):(Code.region id ops true).wp P Q a w:=by
 simp only[wP,am,aD]at e;obtain⟨⟨⟨⟨⟨c,k⟩,b⟩,m⟩,g⟩,l⟩:=e
 have d:HeadInv .any ops n (Array.replicate ops.size false):=
  ⟨by simp,fun j p _ b=>(by rw[getD_replicate_false]at b;cases b),fun t _ o=>getD_in (by simpa using o) (getD_replicate_false _ _)⟩
 have:=vi (P:=P) (Q:=Q) f c m g k ord _ a w.drew d l h;rw[b,show n+(ops.size-n)=ops.size by omega]at this;exact wp_region_any i (vg _ _ _ _ this)
def Ys:Ym fun w x=>Below w w x:=⟨fun _=>TH _ _,fun _ _ _ h a=>h.trans (a.mono h.size)⟩
def gS{id:Nat}{a:Act}{w:World}(n:Nat)(ord:List (Nat×Bool))(c:P.follows .mixedOrders=true)(b:wP .any ops n ord=true)
 (h:tA (fun w x=>Below w w x) P ops Q n ord a w.drew):(Code.region id ops true).wp P Q a w:=Yu Ys n ord c b h
def gU{n i:Nat}{b:List (Nat×Bool)}{o:Oper}{v:Value}{a:Act}{w:World}(e:∀x,R w x->(execOp a.eval o).run P x=.ok (.value v) x)(h:tA R P ops Q n b (a.put o.dst v) w)(hi:ops.toList[i]? =some o:=by rfl)(hQ:∀c a w,Q (.panic c) (a.put o.dst v) w->Q (.panic c) a w:=by exact fun _ _ _ h=>h)(hw:Region.wanted o (yielded ops a.tmps)=true:=by rfl):tA R P ops Q n ((i,true)::b) a w:=
 ⟨o,v,by rw[<- bc];exact hi,VR ⟨hw,fun x d=>e x (d.resolve_left (by decide))⟩,hQ,h⟩
def Gq{n i:Nat}{b:List (Nat×Bool)}{o:Oper}{a:Act}{w:World}(hi:ops.toList[i]? =some o)(d:∀c a w,Q (.panic c) (a.put o.dst undef) w->Q (.panic c) a w)
 (hw:Region.wanted o (yielded ops a.tmps)=false)
 (h:tA R P ops Q n b (a.put o.dst undef) w):tA R P ops Q n ((i,true)::b) a w:=
 ⟨o,undef,by rw[<- bc];exact hi,VS ⟨hw,rfl⟩,d,h⟩
def gP{n i:Nat}{b:List (Nat×Bool)}{o:Oper}{a:Act}{w:World}(h:∀K:Act->World->Prop,(∀a' w',R w w'->tA R P ops Q n b a' w'->K a' w')->o.wp P a w K Q)(hi:ops.toList[i]? =some o:=by rfl)(hg:o.guard=none:=by rfl):tA R P ops Q n ((i,false)::b) a w:=by
 have hw:Region.wanted o (yielded ops a.tmps)=true:=by simp[Region.wanted,hg]
 rw[bc]at hi
 show wpOp P ops Q i _ a w
 unfold wpOp;simp only[hi,hw,bX];exact .inl (h _ fun a' w' h1 h2=>⟨h1,h2⟩)
def iu{n:Nat}{a:Act}{w:World}{l:List Oper}(b:ops.toList.drop n=l)(h:wpList P ops Q l a w):tA R P ops Q n [] a w:=by
 subst b;exact h
end
section
def JO(d:FuncId)(P:Program)(c:Code)(Q:Exit->Act->World->Prop)(a:Act)(w:World):Prop:=
 ∀(b:Frame)(k:List Item)(cs:List Frame),b.roundOf=none->b.fn=d->
  ∃e a' w',Q e a' w'/\ArrivesIn (Machine.fenced P Fence.wide) P (lone (b.atR a (.code c::k)) cs w) b k cs e a' w'
variable{fn0:FuncId}{P:Program}{Q:Exit->Act->World->Prop}{a:Act}{w:World}
def Cs{c:Code}(h:c.wp P Q a w):JO fn0 P c Q a w:=fun b k cs d _=>(wpIn_wide (n:=0)).2 h b k cs d trivial (room_wide _)
def JP{x y:Code}(h:JO fn0 P x (Exit.then (JO fn0 P y Q) Q) a w):JO fn0 P (.seq x y) Q a w:=by
 intro b k cs l hb;have h0:(lone (b.atR a (.code (.seq x y)::k)) cs w).fenced P Fence.wide:=fenced_calm (n:=0) trivial (room_wide _) rfl;obtain⟨e,f,g,d,c⟩:=h b (.code y::k) cs l hb
 match e,d,c with
 | .normal,d,c=>
   obtain⟨p,o,q,m,j⟩:=d b k cs l hb;exact⟨p,o,q,m,ArrivesIn.of_steps (StepsIn.head h0 stepR_seq c) j⟩
 | .exit i,d,c=>exact⟨_,f,g,d,.of_steps (.one h0 stepR_seq) (.pass (x:=.code y) rfl (fun _ _=>.inl (by simp)) c)⟩
 | .goto i,d,c=>exact⟨_,f,g,d,.of_steps (.one h0 stepR_seq) (.pass (x:=.code y) rfl (fun _ _=>.inl (by simp)) c)⟩
 | .ret,d,c=>exact⟨_,f,g,d,.of_steps (.one h0 stepR_seq) (.pass (x:=.code y) rfl (fun _ _=>.inl (by simp)) c)⟩
 | .panic ch,d,c=>exact⟨_,f,g,d,.of_steps (.one h0 stepR_seq) (.pass (x:=.code y) rfl (fun _ _=>.inl (by simp)) c)⟩
 | .outgrown,d,c=>exact⟨_,f,g,d,.of_steps (.one h0 stepR_seq) (.pass (x:=.code y) rfl (fun _ _=>.inl (by simp)) c)⟩
def oW{x y:Code}(h:∀K:Act->World->Prop,(∀a w,JO fn0 P y Q a w->K a w)->x.wp P (Exit.then K Q) a w):JO fn0 P (.seq x y) Q a w:=JP (Cs (h _ fun _ _ h=>h))
def SF(Q:Exit->Act->World->Prop)(e:Exit)(a:Act)(w:World):Prop:=
 match e with
 | .normal=>Q .normal a w
 | .panic ch=>Q (.panic ch) a w
 |_=>False
def Lw{id:Nat}{c:Code}(h:JO fn0 P c (SF Q) a w):JO fn0 P (.block id c) Q a w:=by
 intro b k cs i hb;have h0:(lone (b.atR a (.code (.block id c)::k)) cs w).fenced P Fence.wide:=fenced_calm (n:=0) trivial (room_wide _) rfl;obtain⟨e,g,j,d,f⟩:=h b (.inBlock id::k) cs i hb
 match e,d,f with
 | .normal,d,f=>exact⟨.normal,g,j,d,StepsIn.head h0 stepR_block (StepsIn.trans f (.one (fenced_calm (n:=0) trivial (room_wide _) rfl) stepR_inBlock))⟩
 | .panic ch,d,f=>exact⟨.panic ch,g,j,d,ArrivesIn.of_steps (.one h0 stepR_block) f⟩
 | .exit _,d,_=>exact d.elim
 | .goto _,d,_=>exact d.elim
 | .ret,d,_=>exact d.elim
 | .outgrown,d,_=>exact d.elim
def Lz{g:Operand}{z:Array Tmp}{assign body:Code}{l:Nat}{i:List Deferred}{C w₁' D:World}{d:Deferred}{f:FuncId}{args:Array Value}
 (A:(Instr.enterLoop fn0 a.tmps z assign body none).run P w=.ok (l,i) C)(s:(resolve a.eval (rangeCall g l) 0).run P C=.ok d w₁')(hinv:(invoke d.target d.args).run P w₁'=.ok (.enter f args) D)
 (q:Calls P f args D fun e o=>match e with
   | .returned _=>∃t,(Instr.endLoop l).run P o=.ok none t/\Q .normal {a with defers:=i++a.defers} t
   | .panicked j=>Q (.panic j) {a with defers:=i++a.defers} o
   | .outgrown=>False):JO fn0 P (.rangeFunc g z assign body) Q a w:=by
 intro b k cs B hb;rw[<- hb,<- B]at A;have h0:(lone (b.atR a (.code (.rangeFunc g z assign body)::k)) cs w).fenced P Fence.wide:=fenced_lone (.inl trivial) (fun _ _=>trivial) (room_wide _);have m:=stepR_rangeFunc (P:=P) (b:=b) (a:=a) (k:=k) (cs:=cs) (w:=w) A s hinv;obtain⟨e,o,fr,u,h,E,c⟩:=((callsIn_wide (n:=0)).2 q).2 (b.atR {a with defers:=i++a.defers} (.inRangeFunc l::k)::cs) (room_wide _)
 match e,u,h,c with
 | .outgrown,u,_,_=>exact u.elim
 | .returned v,⟨t,r,y⟩,h,c=>
   have x:(lone fr (b.atR {a with defers:=i++a.defers} (.inRangeFunc l::k)::cs) o).fenced P Fence.wide:=fenced_leaving (n:=0) trivial (room_wide _) c;refine⟨.normal,_,t,y,?_⟩
   have p:step P (lone fr (b.atR {a with defers:=i++a.defers} (.inRangeFunc l::k)::cs) o)=.next (lone (b.atR {a with defers:=i++a.defers} (.endRangeFunc l::k)) cs o):=by
    rw[<- finish_atR_inRangeFunc l v];exact step_leave_returned c
   exact StepsIn.head h0 m (StepsIn.trans h (StepsIn.head x p (.one (fenced_calm (n:=0) trivial (room_wide _) rfl) (stepR_endRangeFunc r))))
 | .panicked j,y,h,c=>
   have x:(lone fr (b.atR {a with defers:=i++a.defers} (.inRangeFunc l::k)::cs) o).fenced P Fence.wide:=fenced_leaving (n:=0) trivial (room_wide _) c;refine⟨.panic j,_,o,y,.inRangeFunc l::k,StepsIn.head h0 m (StepsIn.trans h (.one x ?_))⟩;rw[<- Frame.raise_atR];exact step_leave_panicked c
def DE{f:FuncId}{fn:Func}{c:Code}{args:Array Value}{R:Ending->World->Prop}(hf:P.funcs[f]? =some fn)(hb:fn.body=some c)
 (h:JO f P c (bodyPostM Fence.wide 0 P fn R) {tmps:=args++Array.replicate (fn.ntmps-args.size) undef,defers:=[]} w):Calls P f args w R:=by
 refine(callsIn_wide (n:=0)).1 ⟨trivial,fun cs z=>?_⟩;obtain⟨b,p⟩:∃b:Frame,b={(default:Frame)with fn:=f,kind:=.normal,roundOf:=none}:=⟨_,rfl⟩
 have i:b.fn=f:=by rw[p]
 have q:b.kind=.normal:=by rw[p]
 have t:b.roundOf=none:=by rw[p]
 have l:Frame.enter P f args .normal=b.atR {tmps:=args++Array.replicate (fn.ntmps-args.size) undef,defers:=[]} [.code c]:=by
  rw[p];simp[Frame.enter,Frame.atR,hf,hb]
 have u:P.funcs[b.fn]? =some fn:=by rw[i];exact hf
 obtain⟨e,a',w',d,a⟩:=h b [] cs t i;rw[l]
 match e,d,a with
 | .normal,d,a=>
   obtain⟨r,o,k,s,x,m,v⟩:=leaves_stepsInM a'.defers .returning w' {b.atR a' []with mode:=.returning} cs rfl rfl rfl u q trivial (room_wide _) d;exact⟨r,o,k,s,ComesIn.of_steps (StepsIn.trans a (.one (fenced_calm (n:=0) (fr:=b.atR a' []) trivial (room_wide _) rfl) (stepR_end t))) x,m.trans i,v⟩
 | .ret,d,a=>
   obtain⟨j,y⟩:=a.1 t;obtain⟨r,o,k,s,x,m,v⟩:=leaves_stepsInM a'.defers .returning w' {b.atR a' j with mode:=.returning} cs rfl rfl rfl u q trivial (room_wide _) d;exact⟨r,o,k,s,ComesIn.of_steps y x,m.trans i,v⟩
 | .panic g,d,a=>
   obtain⟨j,y⟩:=a;obtain⟨r,o,k,s,x,m,v⟩:=leaves_stepsInM a'.defers (.panicking g) w' {b.atR a' j with mode:=.panicking g} cs rfl rfl rfl u q trivial (room_wide _) d;exact⟨r,o,k,s,ComesIn.of_steps y x,m.trans i,v⟩
 | .exit _,d,_=>exact d.elim
 | .goto _,d,_=>exact d.elim
 | .outgrown,d,a=>exact⟨.outgrown,w',b,d,a.resolve_left (by rw[q];simp),i,trivial⟩
end
def SL(N:Nat)(w:World)(a:Option Addr)(n c:Nat)(zs:List Int):Prop:=
 n=zs.length/\n<=c/\(0<n-> ∃b off,a=some ⟨b,off,none⟩/\b<N/\ ∀j,j<n->w.cell? ⟨b,off+j,none⟩=some (.int .i64 (zs.getD j 0)))
def SL.len{N w a n c zs}(h:SL N w a n c zs):n=zs.length:=h.1
def SL.at{N w a n c zs}(h:SL N w a n c zs)(d:0<n):∃b off,a=some ⟨b,off,none⟩/\b<N/\ ∀j,j<n->w.cell? ⟨b,off+j,none⟩=some (.int .i64 (zs.getD j 0)):=h.2.2 d
def SL.cap{N w a n c zs}(h:SL N w a n c zs):n<=c:=h.2.1
def SL.below{N M w w' a n c zs}(h:SL N w a n c zs)(hb:Below M w w')(d:N<=M):SL N w' a n c zs:=
 ⟨h.1,h.2.1,fun g=>let⟨b,off,e,hlt,hc⟩:=h.2.2 g;⟨b,off,e,hlt,fun j f=>(hb.cell (p:=⟨b,off+j,none⟩) (eb hlt d)).trans (hc j f)⟩⟩
def SL.mono{N M w a n c zs}(h:SL N w a n c zs)(d:N<=M):SL M w a n c zs:=
 ⟨h.1,h.2.1,fun f=>let⟨b,off,e,hlt,hc⟩:=h.2.2 f;⟨b,off,e,eb hlt d,hc⟩⟩
def SL.go{w w' a n c zs}(h:SL w.heap.size w a n c zs)(hb:Below w.heap.size w w'):SL w'.heap.size w' a n c zs:=
 (h.below hb (ag _)).mono hb.size
def SL.nil(N:Nat)(w:World)(a:Option Addr)(c:Nat):SL N w a 0 c []:=⟨rfl,aA _,fun h=>absurd h (by omega)⟩
def mO(w:World)(g:Nat)(cs:List Value)(t:TypeId):Prop:=∃a:List Value,w.heap[g]? =some (.cells (cs++a).toArray t (0,0))
def mO.lt{w g cs t}(h:mO w g cs t):g<w.heap.size:=let⟨_,h⟩:=h;TK h
def mO.cell{w g cs t}(h:mO w g cs t){j:Nat}(a:j<cs.length):w.cell? ⟨g,j,none⟩=some cs[j]:=by
 obtain⟨r,h⟩:=h;simp[World.cell?,h,aF a,ae a]
def mO.free{w g cs t}(h:mO w g cs t)(j:Nat):w.frozen? ⟨g,j,none⟩=false:=by
 obtain⟨r,h⟩:=h;simp[World.frozen?,h]
def mO.below{w w' g cs t B}(h:mO w g cs t)(hb:Below B w w')(a:g<B):mO w' g cs t:=let⟨r,h⟩:=h;⟨r,(hb.block g a).trans h⟩
def mO.set{w g cs t}(h:mO w g cs t)(j:Nat)(b:j<cs.length)(v:Value):mO (w.setCell ⟨g,j,none⟩ v) g (cs.set j v) t:=by
 have hlt:=h.lt;obtain⟨r,h⟩:=h
 have a:w.heap[g]=.cells (cs++r).toArray t (0,0):=by simpa[dH hlt]using h
 refine⟨r,?_⟩
 show(w.heap.modify g _)[g]? =_
 rw[dH (by simpa using hlt),fW,a];simp[b]
def mO.other{w g cs t}(h:mO w g cs t)(p:Addr)(a:p.block≠g)(v:Value):mO (w.setCell p v) g cs t:=
 let⟨r,h⟩:=h;⟨r,by rw[TI _ _ _ _ (fun e=>a e.symm)];exact h⟩
def vO(w:World)(g:Nat)(zs:List Int):Prop:=mO w g (zs.map (Value.int .i64)) 3
def vO.lt{w g zs}(h:vO w g zs):g<w.heap.size:=mO.lt h
def vO.cell{w g zs}(h:vO w g zs){j:Nat}(a:j<zs.length):w.cell? ⟨g,j,none⟩=some (.int .i64 (zs.getD j 0)):=by
 have:=mO.cell h (j:=j) (by simpa using a);simpa[ah,ae a]using this
def vO.free{w g zs}(h:vO w g zs)(j:Nat):w.frozen? ⟨g,j,none⟩=false:=mO.free h j
def vO.below{w w' g zs B}(h:vO w g zs)(hb:Below B w w')(a:g<B):vO w' g zs:=mO.below h hb a
def vO.set{w g zs}(h:vO w g zs)(j:Nat)(a:j<zs.length)(v:Int):vO (w.setCell ⟨g,j,none⟩ (.int .i64 v)) g (zs.set j v):=by
 have:=mO.set h j (by simpa using a) (.int .i64 v);unfold vO;rw[List.map_set];exact this
def vO.sl{w g zs}(h:vO w g zs){c:Nat}(a:zs.length<=c):SL w.heap.size w (J g) zs.length c zs:=
 ⟨rfl,a,fun _=>⟨g,0,rfl,h.lt,fun j b=>by rw[aV];exact h.cell b⟩⟩
def vO.drew{w g zs}(h:vO w g zs)(k:Nat):vO (w.drewN k) g zs:=h
def gV{B:Nat}{a w:World}(h:Below B a w)(n:Nat):Below B a (w.drewN n):=h.trans ⟨rfl,rfl,rfl,ag _,fun _ _=>rfl⟩
def gJ{B:Nat}{w w':World}{k:Nat}(h:Below B (w.drewN k) w'):Below B w w':=⟨h.os,h.tape,h.output,h.size,h.block⟩
def rp{w w':World}(hb:Below w w w'):(∀b o,b<w.heap.size->w'.cell? ⟨b,o,none⟩=w.cell? ⟨b,o,none⟩)/\(∀b o,b<w.heap.size->w'.frozen? ⟨b,o,none⟩=w.frozen? ⟨b,o,none⟩):=
 ⟨fun b o h=>hb.cell (p:=⟨b,o,none⟩) h,fun b o h=>hb.frozen (p:=⟨b,o,none⟩) h⟩
def kS(B:Nat)(a:Option Addr)(n:Nat):Prop:=∀b off,a=some ⟨b,off,none⟩->0<n->B<=b
def kS.zero(B:Nat)(a:Option Addr):kS B a 0:=fun b off _ h=>absurd h (by omega)
def kS.mk{B g off:Nat}(h:B<=g)(n:Nat):kS B (some ⟨g,off,none⟩) n:=fun b o e _=>by cases e;exact h
def kS.mono{B c:Nat}{a:Option Addr}{n:Nat}(h:kS B a n)(d:c<=B):kS c a n:=fun b off e h0=>af d (h b off e h0)
def SL.setCell{N:Nat}{w:World}{a:Option Addr}{n c:Nat}{zs:List Int}(h:SL N w a n c zs)(p:Addr)(u:Value)(d:∀b off,a=some ⟨b,off,Option.none⟩->0<n->b≠p.block):SL N (w.setCell p u) a n c zs:=by
 refine⟨h.1,h.2.1,fun h0=>?_⟩;obtain⟨b,off,e,hlt,f⟩:=h.2.2 h0;have hb:=d b off e h0;exact⟨b,off,e,hlt,fun j g=>by rw[World.cell?_setCell_other _ _ _ _ (fun e=>hb (ai Addr.block e).symm)];exact f j g⟩
def QE(w:World)(v:Value)(e:Ending)(w':World):Prop:=e=.returned v/\ ∃k,w'=w.drewN k
def iZ(w:World)(v:Value)(e:Ending)(w':World):Prop:=e=.returned v/\Below w w w'
def Tryz.infoInt:(prog.info? 3).map (fun i=>(i.zero,i.size,i.bytes))=some (some (.int .i64 0),1,8):=by kernel_rfl
def sd{t:TypeId}{z:Value}{s b:Nat}(h:(prog.info? t).map (fun i=>(i.zero,i.size,i.bytes))=some (some z,s,b)):
 ∃i,prog.info? t=some i/\i.zero=some z/\i.size=s/\i.bytes=b:=by
 cases hi:prog.info? t with
 |none=>rw[hi]at h;cases h
 |some i=>rw[hi]at h;simp at h;exact⟨i,rfl,h.1,h.2.1,h.2.2⟩
def MB(n:Nat):madeCells (Value.int .i64 0).cells n=((List.replicate n (0:Int)).map (Value.int .i64)).toArray:=by
 apply Array.ext
 .simp[madeCells]
 .intro i h1 h2
  simp[madeCells,Value.cells,Nat.mod_one]
def oE{w:World}{ops:Array Oper}{b:List Oper}{o:Oper}{a:Act}{Q:Exit->Act->World->Prop}
 (k:o.guard=none)(l c:Operand)(t:TypeId)(e:o.op=Op.makeSlice t l c)(q:prog.underlying t=some (.slice 3))
 (L:Int)(n:Nat)(m:a.eval l=.int .i64 L)(j:a.eval c=.int .i64 L)(h:L=(n:Int))(s:n<=10000000000000)
 (g:∀w',vO w' w (List.replicate n 0)->Below w w w'->wpList prog ops Q b (a.put o.dst (.slice (J (w.heap.size)) n n)) w'):
 wpList prog ops Q (o::b) a w:=by
 refine eT k fun K d=>?_
 obtain⟨i,hi,r,p,hb⟩:=sd Tryz.infoInt;subst h;have f:=run_make (P:=prog) w t 3 i _ q hi r .i64 .i64 (n:Int) (n:Int) (by omega) (by omega) (by rw[hb];omega) (by omega);rw[p,aI,dn,MB]at f;unfold Oper.wp;simp[execOp,e,m,j,f,Result.andThen];refine d _ _ (g _ ?_ ((TH _ _).alloc (ag _) _));refine⟨[],?_⟩;rw[TL];simp
def TC(cs zs:List Int):List Int:=cs++zs.drop cs.length
def mz{w:World}{base:Nat}{t:TypeId}{size:Nat}{v:Value}{n:Nat}{xs:List Value}(h:w.ownsRow base t size v n xs):
 xs.length=n*size/\((v=.slice none 0 0/\n=0)\/ ∃g cap,v=.slice (J g) n cap/\base<=g/\n<=cap/\mO w g xs t):=by
 refine⟨h.1,h.2.imp id ?_⟩;rintro⟨g,cap,a,rfl,hb,c,b,_,_,d⟩;refine⟨g,cap,rfl,hb,b,a.toList.drop (n*size),?_⟩;rw[c,<- d,cA]
def mS{w:World}{ops:Array Oper}{d:List Oper}{o:Oper}{a:Act}{Q:Exit->Act->World->Prop}(g:o.guard=none)(s x:Operand)(t:TypeId)
 (y:o.op=.call {callee:=.builtin .append,args:=#[s,x],argTypes:=#[t,t]})
 (base:Nat)(e:TypeId)(z:Value)(size bytes:Nat)(ht:prog.underlying t=some (.slice e))(hi:(prog.info? e).map (fun i=>(i.zero,i.size,i.bytes))=some (some z,size,bytes))
 (hzs:z.cells.size=size)(hsz:0<size)
 (v:Value)(n:Nat)(xs:List Value)(hs:a.eval s=v)(hown:w.ownsRow base e size v n xs)
 (sp:Option Addr)(m c:Nat)(news:List Value)(hx:a.eval x=.slice sp m c)(hl:news.length=m*size)
 (hnews:0<m-> ∃b off,sp=some ⟨b,off,none⟩/\ ∀j u,news[j]? =some u->w.cell? ⟨b,off+j,none⟩=some u)(h1:∀u∈news,u.oneCell'=true)
 (hmn:sp=none->m=0/\c=0)(hb:(n+m)*bytes<=140737488355328)(hb2:n+m<=140737488355328)(hbase:base<=w.heap.size)
 (h:∀f w',w'.ownsRow base e size f (n+m) (xs++news)->w.grownBy w' v.ownBlock->wpList prog ops Q d (a.put o.dst f) w'):
 wpList prog ops Q (o::d) a w:=by
 obtain⟨i,k,p,q,r⟩:=sd hi
 cases sp with
 |none=>
  obtain⟨rfl,rfl⟩:=hmn rfl;obtain rfl:news=[]:=ec (by simpa using hl);refine wpList_append_own_none g s x t y base e i size ht k v n xs hs hown hx ?_;exact h v w (by simpa using hown) ⟨rfl,rfl,rfl,ag _,fun _ _ _=>rfl⟩
 |some A=>
  refine wpList_append_own w g s x t y base e i z size bytes ht k p q r hzs hsz v n xs hs hown A m c news hx hl ?_ h1 (by unfold maxLen;omega) hb hbase (fun f w' h2 h3 _=>h f w' h2 h3);intro j u l;by_cases D:0<m
  .obtain⟨b,off,C,B⟩:=hnews D
   obtain rfl:=aE C;have:=B j u l;unfold Addr.add;by_cases h0:j=0
   .subst h0;simpa using this
   .simpa[h0]using this
  .have:news.length=0:=by rw[hl,show m=0 by omega];simp
   rw[ec this]at l;simp at l
def ju{w:World}{ops:Array Oper}{d:List Oper}{o:Oper}{a:Act}{Q:Exit->Act->World->Prop}(p:o.guard=none)(s x:Operand)(t:TypeId)
 (y:o.op=.call {callee:=.builtin .append,args:=#[s,x],argTypes:=#[t,t]})(ht:prog.underlying t=some (.slice 3))
 (base:Nat)(v:Value)(n:Nat)(zs:List Int)(hs:a.eval s=v)(hown:w.ownsRow base 3 1 v n (zs.map (Value.int .i64)))
 (N:Nat)(sp:Option Addr)(m c:Nat)(xs:List Int)(hx:a.eval x=.slice sp m c)(hsl:SL N w sp m c xs)(hmn:sp=none->c=0)
 (hb:n+m<=10000000000000)(hbase:base<=w.heap.size)
 (h:∀i w',w'.ownsRow base 3 1 i (n+m) ((zs++xs).map (Value.int .i64))->w.grownBy w' v.ownBlock->wpList prog ops Q d (a.put o.dst i) w'):
 wpList prog ops Q (o::d) a w:=by
 refine mS p s x t y base 3 (.int .i64 0) 1 8 ht Tryz.infoInt (by simp[Value.cells]) (by omega) v n _ hs hown sp m c (xs.map (Value.int .i64)) hx (by simp[hsl.len]) ?_ (by simp[Value.oneCell']) ?_ (by omega) (by omega) hbase ?_
 .intro r
  obtain⟨b,off,e,_,q⟩:=hsl.2.2 r;refine⟨b,off,e,fun j u f=>?_⟩
  have k:j<xs.length:=by
   apply bg;intro g
   rw[bz (by simp;omega)]at f;cases f
  have:=q j (by have:=hsl.len;omega);rw[aR,ae k]at f;simp at f;subst f;rw[this,ah,ae k];rfl
 .intro e
  refine⟨?_,hmn e⟩
  apply bg;intro g
  obtain⟨b,off,l,_⟩:=hsl.2.2 (by omega);rw[e]at l;cases l
 .intro i w' h2 h3
  rw[<- aT]at h2;exact h i w' h2 h3
def mA{w a:World}{o:Obj}(hb:Below (w.alloc o).heap.size (w.alloc o) a):Below w w a:=
 ((TH _ _).alloc (ag _) _).trans (hb.mono (by simp))
def SL.alloc{w:World}{a n c zs}(h:SL w w a n c zs)(o:Obj):SL (w.alloc o).heap.size (w.alloc o) a n c zs:=
 h.go ((TH _ _).alloc (ag _) _)
def SL.one(w:World)(x:Int)(t:TypeId):SL (w.alloc (.cells #[x] t)).heap.size (w.alloc (.cells #[x] t)) (J (w.heap.size)) 1 1 [x]:=
 ⟨rfl,ag _,fun _=>⟨w.heap.size,0,rfl,by simp,fun j a=>by
   obtain rfl:j=0:=by omega
   exact World.cell?_alloc_at _ _ _ _ rfl⟩⟩
def kx{w:World}{base:Nat}{t:TypeId}{size:Nat}{v:Value}{n:Nat}{xs:List Value}(h:w.ownsRow base t size v n xs):∃a c,v=.slice a n c:=by
 obtain ⟨rfl,rfl⟩|⟨g,cap,b,rfl,_⟩:=h.2
 .exact⟨_,_,rfl⟩
 .exact⟨_,_,rfl⟩
def ur{w:World}{base:Nat}{t:TypeId}{a:Option Addr}{n c:Nat}{zs:List Int}(h:w.ownsRow base t 1 (.slice a n c) n (zs.map (Value.int .i64))):SL w w a n c zs:=by
 have d:=h.1;simp at d
 rcases(mz h).2 with⟨e,rfl⟩|⟨g,cap,e,_,f,b⟩
 .cases ec d
  exact SL.nil _ _ _ _
 .injection e with e1 e2 e3
  subst e1 e3;refine⟨d.symm,f,fun _=>⟨g,0,rfl,b.lt,fun j i=>?_⟩⟩;rw[aV,b.cell (by simp;omega)];simp[ah,ae (show j<zs.length by omega)]
def jI{w w':World}{o:Obj}{base:Nat}{t:TypeId}{size:Nat}{v:Value}{n:Nat}{xs:List Value}(a:w.ownsRow base t size v n xs)(d:(w.alloc o).grownBy w' v.ownBlock)
 {b:Nat}(hb:b<base)(c:base<=w.heap.size):w'.heap[b]? =w.heap[b]? :=by
 rw[d.block b (by simp;omega) (fun e=>by have:=(a.lt b e.symm).1;omega),TJ _ _ _ (by omega)]
def jF{w0 w w':World}{o:Obj}{base B:Nat}{t:TypeId}{size:Nat}{v:Value}{n:Nat}{xs:List Value}(hb:Below B w0 w)(a:w.ownsRow base t size v n xs)(c:(w.alloc o).grownBy w' v.ownBlock)
 (e:B<=base)(b:base<=w.heap.size):Below B w0 w':=
 (hb.alloc (by omega) o).grown c (by simp;omega) (fun k d=>by have:=(a.lt k d).1;omega)
def gG{w:World}{b:Nat}{cs:Array Value}{t:TypeId}(h:w.heap[b]? =some (.cells cs t (0,0)))(i:Nat)(u:Value):
 (w.setCell ⟨b,i,none⟩ u).heap[b]? =some (.cells (cs.setIfInBounds i u) t (0,0)):=by
 have hlt:=TK h
 have a:w.heap[b]=.cells cs t (0,0):=by simpa[dH hlt]using h
 show(w.heap.modify b _)[b]? =_
 rw[dH (by simpa using hlt),fW,a];rfl
def gF{w:World}{b:Nat}{o:Obj}(h:w.heap[b]? =some o)(p:Addr)(a:p.block≠b)(u:Value):(w.setCell p u).heap[b]? =some o:=
 (TI _ _ _ _ (fun e=>a e.symm)).trans h
def pG:∀(d r:Nat),(jf d r).length<=d
 |0,_=>ag _
 |d+1,r=>by
  rw[jf];split
  .exact aA _
  .rw[aH];exact Nat.succ_le_succ (pG d _)
section
variable{P:Program}{ops:Array Oper}{Q:Exit->Act->World->Prop}{md:Region.Mode}
def MC{j:Nat}{g:Oper}{d:Tmp}{u:Value}(t:ops[j]? =some g)(h1:d ∉ g.looksAt ops)(h2:g.dst≠some d)
 (o:∀cs b,g.op≠ .select cs b)(s:∀c a w,Q (.panic c) a w->Q (.panic c) (a.put (some d) u) w){K q:Act->World->Prop}{a:Act}{w:World}
 (l:∀a' w',K a' w'->q (a'.put (some d) u) w')(h:wpOp P ops Q j K a w):wpOp P ops Q j q (a.put (some d) u) w:=by
 have m:∀e,some d=some e->e ∉ g.looksAt ops:=fun e k=>by cases k;exact h1
 have i:∀e,(some d:Option Tmp)=some e->g.dst≠some e:=fun e k=>by cases k;exact h2
 unfold wpOp at*;simp only[t]at*;rw[wanted_put g a (some d) u m];split
 .rename_i hw
  simp only[hw,bX]at h
  obtain h|⟨hasks,hlets⟩:=h
  case inr=>exact .inr ⟨by unfold Oper.asks at*;rw[execOp_put g o a (some d) u m];exact hasks,hlets⟩
  refine .inl ?_;unfold Oper.wp at*;rw[execOp_put g o a (some d) u m];generalize(execOp a.eval g).run P w=r at*
  cases r with
  |ok n w'=>
   cases n<;>simp only[Oper.upon]at h⊢
   case value v=>rw[Act.put_comm a u v i];exact l _ _ h
   case skip=>rw[Act.put_comm a u undef i];exact l _ _ h
   case defer e=>
    rw[Act.put_defers,Act.put_comm _ u undef i];exact l _ _ h
   case enter f args=>
    refine Calls.mono h fun e p k=>?_
    cases e with
    |returned v=>
     show q ((a.put (some d) u).put g.dst v) p
     rw[Act.put_comm a u v i];exact l _ _ k
    |panicked c=>exact s _ _ _ k
    |outgrown=>exact k
   case row row args=>exact Rows.mono h fun v p k=>by rw[Act.put_comm a u v i];exact l _ _ k
  |halt x w'=>
   cases x<;>simp only[Oper.upon]at h⊢
   case panic v=>exact s _ _ _ h
 .rename_i hw
  simp only[hw]at h;rw[Act.put_comm a u undef i];exact l _ _ h
def J5{x y:Oper}{d:Tmp}(a:x.dst=some d)(h:x.apart ops y=true):d ∉ y.looksAt ops/\y.dst≠some d:=
 let⟨h1,h2,_⟩:=Oper.apart_spec h;⟨h1 d a,h2 d a⟩
end
def Yr(B:Nat):Ym (Below B):=⟨TH B,fun _ _ _ h=>h.trans⟩
def wT{B:Nat}{P:Program}{ops:Array Oper}{Q:Exit->Act->World->Prop}{id:Nat}{a:Act}{w:World}(n:Nat)(ord:List (Nat×Bool))(c:P.follows .mixedOrders=true)(b:wP .any ops n ord=true)
 (h:tA (Below B) P ops Q n ord a w.drew):(Code.region id ops true).wp P Q a w:=Yu (Yr B) n ord c b h
def YT(t:List UInt8):Option Nat:=
 let w:=t.takeWhile ma
 if w=[]\/(1<w.length/\w.head?=some 48)then none
 else match t.dropWhile ma with
  |[]=>some 0
  |b::f=>if b=46/\f≠[]/\f.all ma=true/\f.getLast?≠some 48 then some f.length else none
def oS(s:List UInt8):Bool×List UInt8:=match s with
 |45::t=>(true,t)
 |s=>(false,s)
def li(s:List UInt8):Option Nat:=if s=[45,48]then none else YT (oS s).2
def wg(s:List UInt8):Int:=if(oS s).1 then -((mX 0 (s.filter ma):Nat):Int)else((mX 0 (s.filter ma):Nat):Int)
def Qy{b:UInt8}(h:ma b=true):(b==46)=false:=by
 obtain⟨k,c,rfl⟩:=vY h;rw[ak];intro e;have:=ai UInt8.toNat e;rw[lA c]at this;have a:(46:UInt8).toNat=46:=rfl;rw[a]at this;omega
def Qz{b:UInt8}(h:ma b=true):b≠45:=by
 obtain⟨k,c,rfl⟩:=vY h;intro e;have:=ai UInt8.toNat e;rw[lA c]at this;have a:(45:UInt8).toNat=45:=rfl;rw[a]at this;omega
def sF{l:List UInt8}(h:l.all ma=true):l.filter ma=l:=List.filter_eq_self.2 (an.1 h)
def GR{t:List UInt8}{p:Nat}(h:YT t=some p):∃w f,w.all ma=true/\w≠[]/\(w.length=1\/w.head?≠some 48)/\f.all ma=true/\f.getLast?≠some 48/\f.length=p/\t=w++(if f=[]then[]else 46::f):=by
 unfold YT at h;simp only[]at h;split at h
 .cases h
 .rename_i hw
  have c:t.takeWhile ma≠[]:=fun e=>hw (.inl e)
  have d:(t.takeWhile ma).length=1\/(t.takeWhile ma).head?≠some 48:=by
   by_cases h1:1<(t.takeWhile ma).length
   .exact .inr fun e=>hw (.inr ⟨h1,e⟩)
   .have:0<(t.takeWhile ma).length:=ez.2 c
    exact .inl (by omega)
  have a:(t.takeWhile ma).all ma=true:=eF;have g:t.takeWhile ma++t.dropWhile ma=t:=dX;split at h
  .rename_i e
   cases h;refine⟨t.takeWhile ma,[],a,c,d,rfl,by simp,rfl,?_⟩;rw[e]at g;rw[aq rfl];exact g.symm
  .rename_i b f e
   split at h
   .rename_i hf
    cases h;refine⟨t.takeWhile ma,f,a,c,d,hf.2.2.1,hf.2.2.2,rfl,?_⟩;rw[aj hf.2.1,<- hf.1,<- e];exact g.symm
   .cases h

section
variable{P:Program}{ops:Array Oper}{Q:Exit->Act->World->Prop}{md:Region.Mode}
def uR(l:Array Bool)(k:Nat):(l.setIfInBounds k true).getD k true=true:=by
 rw[eD,Array.getElem?_setIfInBounds,aq rfl];split<;>rfl
def We:List (Nat×Tmp×Obj)->List (Option Nat)->Act->Act
 |(_,d,_)::fs,some b::os,a=>We fs os (a.put (some d) (.pointer (J b)))
 |_::fs,none::os,a=>We fs os a
 |_,_,a=>a
def lV:List (Nat×Tmp×Obj)->List (Option Nat)->Array Bool->Array Bool
 |(k,_,_)::fs,some _::os,l=>lV fs os (l.setIfInBounds k true)
 |_::fs,none::os,l=>lV fs os l
 |_,_,l=>l
def nf(k:Nat):∀(fs:List (Nat×Tmp×Obj))(os:List (Option Nat))(l:Array Bool),lV fs os (l.setIfInBounds k true)=(lV fs os l).setIfInBounds k true
 |[],_,_=>by simp[lV]
 |_::_,[],_=>by simp[lV]
 |(k',d,Zq0)::fs,none::os,l=>by simp only[lV];exact nf k fs os l
 |(k',d,Zq0)::fs,some b::os,l=>by
  simp only[lV];by_cases h:k=k'
  .subst h
   rw[<- nf k fs os]
  .rw[cC _ _ h,nf k fs os]
def vP{x:Option Tmp}{v:Value}:∀(fs:List (Nat×Tmp×Obj))(os:List (Option Nat))(a:Act),(∀f∈fs,x≠some f.2.1)->We fs os (a.put x v)=(We fs os a).put x v
 |[],_,_,_=>by simp[We]
 |_::_,[],_,_=>by simp[We]
 |(k',d,Zq0)::fs,none::os,a,h=>by simp only[We];exact vP fs os a (fun f hf=>h f (au _ hf))
 |(k',d,Zq0)::fs,some b::os,a,h=>by
  simp only[We];have:=h _ (aG ..);rw[Act.put_comm a (x:=x) (y:=some d) v _ (fun e c=>by rw[c]at this;exact fun h=>this h.symm),vP fs os _ (fun f hf=>h f (au _ hf))]
def wQ{b:Nat}:∀(fs:List (Nat×Tmp×Obj))(os:List (Option Nat))(a:Act)(j:Nat)(f:Nat×Tmp×Obj),fs[j]? =some f->os[j]? =some none->(fs.map fun f=>f.2.1).Nodup->
 We fs (os.set j (some b)) a=(We fs os a).put (some f.2.1) (.pointer (J b))
 |[],_,_,_,_,h,_,_=>by simp at h
 |_::_,[],_,_,_,_,h,_=>by simp at h
 |(k',d,Zq0)::fs,o::os,a,0,f,h1,h2,hn=>by
  simp at h1 h2;subst h1 h2;simp only[aZ,We];refine vP fs os a (fun f hf e=>?_);simp only[aN,List.nodup_cons]at hn;exact hn.1 (cP.2 ⟨f,hf,by cases e;rfl⟩)
 |(k',d,Zq0)::fs,o::os,a,j+1,f,h1,h2,hn=>by
  simp only[cS]at h1 h2;simp only[aN,List.nodup_cons]at hn;simp only[aW]
  cases o with
  |none=>simp only[We];exact wQ fs os a j f h1 h2 hn.2
  |some c=>simp only[We];exact wQ fs os _ j f h1 h2 hn.2
def T4{b:Nat}:∀(fs:List (Nat×Tmp×Obj))(os:List (Option Nat))(l:Array Bool)(j:Nat)(f:Nat×Tmp×Obj),fs[j]? =some f->os[j]? =some none->
 lV fs (os.set j (some b)) l=(lV fs os l).setIfInBounds f.1 true
 |[],_,_,_,_,h,_=>by simp at h
 |_::_,[],_,_,_,_,h=>by simp at h
 |(k',d,Zq0)::fs,o::os,l,0,f,h1,h2=>by
  simp at h1 h2;subst h1 h2;simp only[aZ,lV];exact nf k' fs os l
 |(k',d,Zq0)::fs,o::os,l,j+1,f,h1,h2=>by
  simp only[cS]at h1 h2;simp only[aW]
  cases o with
  |none=>simp only[lV];exact T4 fs os l j f h1 h2
  |some c=>simp only[lV];exact T4 fs os _ j f h1 h2
def qT(fs:List (Nat×Tmp×Obj))(l:Array Bool):Array Bool:=fs.foldl (fun l f=>l.setIfInBounds f.1 true) l
def vQ{j:Nat}:∀(fs:List (Nat×Tmp×Obj))(os:List (Option Nat))(l:Array Bool),(∀(i b:Nat)(f:Nat×Tmp×Obj),fs[i]? =some f->os[i]? =some (some b)->j≠f.1)->j∈Region.ready md ops l->j∈Region.ready md ops (lV fs os l)
 |[],_,_,_,h=>by simpa[lV]using h
 |_::_,[],_,_,h=>by simpa[lV]using h
 |(k,d,Zq0)::fs,none::os,l,hn,h=>by simp only[lV];exact vQ fs os l (fun i b f h1 h2=>hn (i+1) b f (by simpa using h1) (by simpa using h2)) h
 |(k,d,Zq0)::fs,some b::os,l,hn,h=>by
  simp only[lV];exact vQ fs os _ (fun i b f h1 h2=>hn (i+1) b f (by simpa using h1) (by simpa using h2)) (ready_mono h (hn 0 b (k,d,Zq0) rfl rfl))
def vk{b:Nat}:∀(fs:List (Nat×Tmp×Obj))(os:List (Option Nat))(l:Array Bool)(j:Nat)(f:Nat×Tmp×Obj),fs[j]? =some f->os[j]? =some (some b)->(lV fs os l).getD f.1 true=true
 |[],_,_,_,_,h,_=>by simp at h
 |_::_,[],_,_,_,_,h=>by simp at h
 |(k',d,Zq0)::fs,o::os,l,0,f,h1,h2=>by
  simp at h1 h2;subst h1 h2;simp only[lV,nf];exact uR _ _
 |(k',d,Zq0)::fs,o::os,l,j+1,f,h1,h2=>by
  simp only[cS]at h1 h2
  cases o with
  |none=>simp only[lV];exact vk fs os l j f h1 h2
  |some c=>simp only[lV];exact vk fs os _ j f h1 h2
def ut(k:Nat):∀(fs:List (Nat×Tmp×Obj))(l:Array Bool),qT fs (l.setIfInBounds k true)=(qT fs l).setIfInBounds k true
 |[],_=>rfl
 |(k',d,Zq0)::fs,l=>by
  show qT fs ((l.setIfInBounds k true).setIfInBounds k' true)=(qT fs (l.setIfInBounds k' true)).setIfInBounds k true
  by_cases h:k=k'
  .subst h
   rw[<- ut k fs]
  .rw[cC _ _ h,ut k fs]
def se{j:Nat}:∀(fs:List (Nat×Tmp×Obj))(os:List (Option Nat))(l:Array Bool),(∀f∈fs,j≠f.1)->j∈Region.ready md ops (lV fs os l)->j∈Region.ready md ops (qT fs l)
 |[],_,_,_,h=>by simpa[lV,qT]using h
 |(k,d,Zq0)::fs,[],l,hn,h=>by
  show j∈Region.ready md ops (qT fs (l.setIfInBounds k true))
  rw[ut];exact ready_mono (se fs [] l (fun f hf=>hn f (au _ hf)) (by cases fs<;>simpa[lV]using h)) (hn _ (aG ..))
 |(k,d,Zq0)::fs,none::os,l,hn,h=>by
  show j∈Region.ready md ops (qT fs (l.setIfInBounds k true))
  rw[ut];exact ready_mono (se fs os l (fun f hf=>hn f (au _ hf)) h) (hn _ (aG ..))
 |(k,d,Zq0)::fs,some b::os,l,hn,h=>se fs os _ (fun f hf=>hn f (au _ hf)) h
def Eb:∀(fs:List (Nat×Tmp×Obj))(bs:List Nat)(l:Array Bool),bs.length=fs.length->lV fs (bs.map some) l=qT fs l
 |[],[],_,_=>rfl
 |[],b::bs,_,h=>by simp at h
 |f::fs,[],_,h=>by simp at h
 |(k,d,Zq0)::fs,b::bs,l,h=>by
  show lV fs (bs.map some) (l.setIfInBounds k true)=qT fs (l.setIfInBounds k true)
  exact Eb fs bs _ (by simpa using h)
def MD(ops:Array Oper)(fs:List (Nat×Tmp×Obj))(o:Oper):Bool:=
 fs.all fun f=>match ops[f.1]? with|some ok=>decide (ok.dst=some f.2.1)&&ok.apart ops o|none=>false
def Gr{fs:List (Nat×Tmp×Obj)}{o:Oper}(h:MD ops fs o=true):∀f∈fs,f.2.1 ∉ o.looksAt ops/\o.dst≠some f.2.1:=fun f hf=>by
 have:=an.1 h f hf
 cases hk:ops[f.1]? with
 |none=>simp[hk]at this
 |some ok=>
  simp only[hk,am,aD]at this;exact J5 this.1 this.2
def tB(o:Oper)(c:∀cs b,o.op≠ .select cs b):∀(fs:List (Nat×Tmp×Obj))(os:List (Option Nat))(a:Act),(∀f∈fs,f.2.1 ∉ o.looksAt ops)->
 execOp (We fs os a).eval o=execOp a.eval o/\Region.wanted o (yielded ops (We fs os a).tmps)=Region.wanted o (yielded ops a.tmps)
 |[],_,_,_=>by simp[We]
 |_::_,[],_,_=>by simp[We]
 |(k',d,Zq0)::fs,none::os,a,h=>by simp only[We];exact tB o c fs os a (fun f hf=>h f (au _ hf))
 |(k',d,Zq0)::fs,some b::os,a,h=>by
  simp only[We];obtain⟨h1,h2⟩:=tB o c fs os (a.put (some d) (.pointer (J b))) (fun f hf=>h f (au _ hf));have i:=h _ (aG ..);exact⟨h1.trans (execOp_put o c a (some d) _ (fun e g=>by cases g;exact i)),h2.trans (wanted_put o a (some d) _ (fun e g=>by cases g;exact i))⟩
def wR{j:Nat}{k:Oper}(o:ops[j]? =some k)(i:∀cs b,k.op≠ .select cs b)(n:∀c a d u w,Q (.panic c) a w->Q (.panic c) (a.put (some d) u) w):
 ∀(fs:List (Nat×Tmp×Obj))(os:List (Option Nat)){K l:Act->World->Prop}{a:Act}{w:World},(∀f∈fs,f.2.1 ∉ k.looksAt ops/\k.dst≠some f.2.1)->
 (∀a' w',K a' w'->l (We fs os a') w')->wpOp P ops Q j K a w->wpOp P ops Q j l (We fs os a) w
 |[],_,_,_,_,_,_,hK,h=>by simp only[We]at*;exact wpOp_mono hK h
 |_::_,[],_,_,_,_,_,hK,h=>by simp only[We]at*;exact wpOp_mono hK h
 |(k',d,Zq0)::fs,none::os,_,_,_,_,hap,hK,h=>by
  simp only[We]at*;exact wR o i n fs os (fun f hf=>hap f (au _ hf)) hK h
 |(k',d,Zq0)::fs,some b::os,K,l,a,w,hap,hK,h=>by
  simp only[We]at*;obtain⟨p1,p⟩:=hap _ (aG ..);refine wR (K:=fun a' w'=>∃g,a'=g.put (some d) (.pointer (J b))/\K g w') o i n fs os (fun f hf=>hap f (au _ hf)) (fun a' w' ⟨g,e,m⟩=>by subst e;exact hK g w' m) ?_;exact MC o p1 p i (fun c a w=>n c a d _ w) (fun a' w' m=>⟨a',rfl,m⟩) h
def yG(md:Region.Mode)(ops:Array Oper)(j i:Nat):Bool:=match ops[j]? with|some o=>o.after.any fun e=>Region.binds md e&&e.on==i|none=>false
def ME(md:Region.Mode)(ops:Array Oper)(j i:Nat):Bool:=
 yG md ops j i||(match ops[j]? with|some o=>o.after.any fun e=>Region.binds md e&&yG md ops e.on i|none=>false)
def MF(md:Region.Mode)(ops:Array Oper)(n:Nat)(a:List Nat):Bool:=
 (List.range ops.size).all fun j=>decide (j<n)||((List.range n).all fun i=>a.contains i||ME md ops j i)
def uS{i j:Nat}{a:Array Bool}(h:yG md ops j i=true)(f:∀b,ops[j]? =some b-> ∀e∈b.after,Region.binds md e=true->a.getD e.on false=true):a.getD i false=true:=by
 unfold yG at h
 cases ho:ops[j]? with
 |none=>simp[ho]at h
 |some o=>
  rw[ho]at h;obtain⟨e,d,h3⟩:=Array.any_eq_true'.1 h;simp only[am,dz]at h3;have c:=f o ho e d h3.1
  rwa[h3.2]at c
def xD{n i:Nat}{m:List Nat}(s:MF md ops n m=true)(h:i<n)(q:m.contains i=false){a:Array Bool}(l:HeadInv md ops ops.size a)(k:a.getD i true=false)(j:Nat)(t:n<=j):j ∉ Region.ready md ops a:=fun r=>by
 obtain⟨_,u,c,b⟩:=mem_ready.1 r;have hlt:j<ops.size:=(cu.1 c).1;have h1:=an.1 s j (aJ.2 hlt);simp only[dN,aD]at h1
 obtain h1|h1:=h1
 .omega
 have h2:=an.1 h1 i (aJ.2 h);rw[q,Bool.false_or]at h2;unfold ME at h2
 have p:∀o,ops[j]? =some o-> ∀e∈o.after,Region.binds md e=true->a.getD e.on false=true:=fun o d e g hb=>by
  rw[c]at d;cases d;exact b e g hb
 have f:a.getD i false=true:=by
  obtain h2|h2:=dN _ _▸h2
  .exact uS h2 p
  .rw[c]at h2
   obtain⟨e,g,h3⟩:=Array.any_eq_true'.1 h2;simp only[am]at h3;exact uS h3.2 (fun o d=>l.closed e.on o d (b e g h3.1))
 rw[getD_both k]at f;cases f
def Bx(P:Program)(ops:Array Oper)(Q:Exit->Act->World->Prop)(n:Nat)(c:List Nat)(fs:List (Nat×Tmp×Obj)):(Nat->Prop)->List (Nat×Bool)->Act->World->Prop
 |C,[],a,w=>∀(bs:List Nat) w',bs.length=fs.length->(∀(j b:Nat)(f:Nat×Tmp×Obj),bs[j]? =some b->fs[j]? =some f->C b/\w'.heap[b]? =some f.2.2)->(∀(i j b:Nat),bs[i]? =some b->bs[j]? =some b->i=j)->Below w w w'->
   wpList P ops Q (ops.toList.drop n) (We fs (bs.map some) a) w'
 |C,(i,true)::rest,a,w=>∃o v,ops[i]? =some o/\YieldsIf P ops (fun x=>c.contains i=true\/Below w w x) o v a/\Bx P ops Q n c fs C rest (a.put o.dst v) w
 |C,(i,false)::rest,a,w=>∀x,Below w w x->wpOp P ops Q i (fun a' w'=>Below x.heap.size x w'/\Bx P ops Q n c fs (fun b=>C b/\(b<x.heap.size\/w'.heap.size<=b)) rest a' w') a x
def xE(md:Region.Mode)(ops:Array Oper)(n:Nat)(fs:List (Nat×Tmp×Obj)):List (Nat×Bool)->Array Bool->Bool
 |[],listed=>Region.seqB md ops (ops.size-n) n (qT fs listed)
 |(i,t)::rest,listed=>
  (Region.ready md ops listed).contains i&& (if t then Region.free md ops listed i else decide (Region.ready md ops (qT fs listed)=[i]))&&
  decide (i<n)&& (fs.all fun f=>decide (i≠f.1))&& (match ops[i]? with|some o=>MD ops fs o|none=>false)&&xE md ops n fs rest (listed.setIfInBounds i true)
def Sk(C:Nat->Prop)(x:World)(fs:List (Nat×Tmp×Obj))(os:List (Option Nat)):Prop:=
 os.length=fs.length/\(∀(j b:Nat)(f:Nat×Tmp×Obj),os[j]? =some (some b)->fs[j]? =some f->C b/\x.heap[b]? =some f.2.2)/\(∀(i j b:Nat),os[i]? =some (some b)->os[j]? =some (some b)->i=j)
def Gt{i:Nat}{m:Oper}{a:Array Bool}(h:∀j c,ops[j]? =some c->j≠i->a.getD j true=false->(∀e∈c.after,Region.binds md e=true->e.on≠i)->m.apart ops c=true):
 ∀(fs:List (Nat×Tmp×Obj))(os:List (Option Nat)),∀j c,ops[j]? =some c->j≠i->(lV fs os a).getD j true=false->(∀e∈c.after,Region.binds md e=true->e.on≠i)->m.apart ops c=true
 |[],_=>by simpa[lV]using h
 |_::_,[]=>by simpa[lV]using h
 |(k,d,Zq0)::fs,none::os=>by simp only[lV];exact Gt h fs os
 |(k,d,Zq0)::fs,some b::os=>fun j c o l f n=>by
  simp only[lV,nf]at f;refine Gt h fs os j c o l ?_ n;by_cases g:k=j
  .subst g;rw[uR]at f;cases f
  .rwa[getD_set_ne true g]at f
def ql(os:List (Option Nat)):Nat:=os.countP fun o=>o.isNone
def yX{b:Nat}:∀(os:List (Option Nat))(j:Nat),os[j]? =some none->ql (os.set j (some b))+1=ql os
 |[],_,h=>by simp at h
 |o::os,0,h=>by
  simp at h;subst h;simp[ql]
 |o::os,j+1,h=>by
  have:=yX (b:=b) os j (by simpa using h);unfold ql at*;rw[aW,fI,fI];omega
def yY:∀(os:List (Option Nat)),ql os=0-> ∃bs:List Nat,os=bs.map some
 |[],_=>⟨[],rfl⟩
 |none::os,h=>by simp[ql]at h
 |some b::os,h=>by
  obtain⟨bs,e⟩:=yY os (by simpa[ql]using h);exact⟨b::bs,by rw[e];rfl⟩
def By:∀(os:List (Option Nat)),ql os≠0-> ∃j:Nat,os[j]? =some none
 |[],h=>by simp[ql]at h
 |none::os,h=>⟨0,rfl⟩
 |some b::os,h=>by
  obtain⟨j,e⟩:=By os (by simpa[ql]using h);exact⟨j+1,by simpa using e⟩
def Qv(P:Program)(ops:Array Oper)(n:Nat)(fs:List (Nat×Tmp×Obj)):Prop:=
 (fs.map fun f=>f.2.1).Nodup/\(fs.map fun f=>f.1).Nodup/\ ∀f∈fs,f.1<n/\ ∃ok,ops[f.1]? =some ok/\ok.dst=some f.2.1/\ok.guard=none/\ ∀(a:Act)(w:World),(execOp a.eval ok).run P w=.ok (.value (.pointer (J (w.heap.size)))) (w.alloc f.2.2)
def Bz{fs:List (Nat×Tmp×Obj)}(h:(fs.map fun f=>f.1).Nodup){i j:Nat}{f g:Nat×Tmp×Obj}(hi:fs[i]? =some f)(a:fs[j]? =some g)(e:f.1=g.1):i=j:=by
 have h1:i<(fs.map fun f=>f.1).length:=by have:=(TG.1 hi).1;simpa using this
 have h2:(fs.map fun f=>f.1)[i]? =(fs.map fun f=>f.1)[j]? :=by
  rw[aR,aR,hi,a];simp[e]
 exact(List.getElem?_inj h1 h).1 h2
def MG{n:Nat}{pu:List Nat}{fs:List (Nat×Tmp×Obj)}(b4:Qv P ops n fs)(b3:∀f∈fs,pu.contains f.1=false)(L:Region.noSelect ops=true)(hs:MF md ops n pu=true)(hn:n<=ops.size)
 (hQ:∀c a d u w,Q (.panic c) a w->Q (.panic c) (a.put (some d) u) w)(b2:∀c a o u w,Q (.panic c) (a.put o u) w->Q (.panic c) a w):
 ∀(m:Nat)(ord:List (Nat×Bool))(C:Nat->Prop)(q:Array Bool)(os:List (Option Nat))(a:Act)(w x:World),m=ord.length+ql os->Sk C x fs os->(∀b,x.heap.size<=b->C b)->HeadInv md ops ops.size (lV fs os q)->
  (∀(j:Nat)(f:Nat×Tmp×Obj),fs[j]? =some f->f.1∈Region.ready md ops q)->xE md ops n fs ord q=true->Bx P ops Q n pu fs C ord a w->
  Below w.heap.size w x->Pb (fun w x=>Below w.heap.size w x) P md ops Q n (m+(ops.size-n)) (lV fs os q) (We fs os a) x:=by
 obtain⟨b6,b0,W⟩:=b4;intro m
 induction m with
 |zero=>
  intro ord C q os a w x hm r M K S hB h hb;obtain⟨bs,rfl⟩:=yY os (by omega);obtain rfl:ord=[]:=aX.1 (by omega)
  have a0:bs.length=fs.length:=by simpa using r.1
  rw[Eb fs bs q a0]
  have:=vh (R:=fun w x=>Below w.heap.size w x) (md:=md) (n:=n) (Q':=Q) (ops.toList.drop n) n (qT fs q) _ x (ag _) (fun j=>by simp[cp]) (by simpa[xE]using hB)
   (h bs x a0 (fun j b f h1 h2=>r.2.1 j b f (by simp[h1]) h2) (fun i j b h1 h2=>r.2.2 i j b (by simp[h1]) (by simp[h2])) hb)
  simpa using this
 |succ m ih=>
  intro ord C q os a w x hm r M K S hB h hb
  have H:∀(j:Nat)(f:Nat×Tmp×Obj),fs[j]? =some f->os[j]? =some none->
   wpOp P ops Q f.1 (fun a' w'=>(f.1<n->Below x x w')/\Pb (fun w x=>Below w.heap.size w x) P md ops Q n (m+(ops.size-n)) ((lV fs os q).setIfInBounds f.1 true) a' w') (We fs os a) x:=by
   intro j f z s;obtain⟨c1,ok,b1,hd,hg,a7⟩:=W f (aL z);have A:Below x x (x.alloc f.2.2):=(TH _ _).alloc (ag _) _
   have hw:Region.wanted ok (yielded ops (We fs os a).tmps)=true:=by simp[Region.wanted,hg]
   unfold wpOp;simp only[b1,hw,bX,Oper.wp,a7,Oper.upon,hd];refine .inl ⟨fun _=>A,?_⟩
   have b8:f.1∈Region.ready md ops (lV fs os q):=vQ fs os q (fun i b g h1 h2 e=>by
    obtain rfl:=Bz b0 h1 z e.symm
    rw[s]at h2;cases h2) (S j f z)
   have B:=ih ord C q (os.set j (some x)) a w (x.alloc f.2.2) (by have:=yX (b:=x.heap.size) os j s;omega) ?_ (fun b X=>M b (af A.size X)) (by rw[T4 fs os q j f z s];exact K.set b8 (cu.1 b1).1) S hB h (hb.trans (A.mono hb.size))
   .rwa[T4 fs os q j f z s,wQ fs os a j f z s b6]at B
   .refine⟨by simpa using r.1,fun i b g h1 h2=>?_,fun i i' b h1 h2=>?_⟩
    .rw[cF]at h1
     split at h1
     .rename_i e;subst e
      split at h1
      .cases h1
       rw[z]at h2;cases h2;exact⟨M _ (ag _),TL _ _⟩
      .cases h1
     .obtain⟨h3,T⟩:=r.2.1 i b g h1 h2
      exact⟨h3,(A.block b (TK T)).trans T⟩
    .have hlt:∀(i b:Nat),os[i]? =some (some b)->b<x.heap.size:=fun i b h3=>by
      have h5:i<fs.length:=by rw[<- r.1];exact(TG.1 h3).1
      exact TK (r.2.1 i b fs[i] h3 (ae h5)).2
     rw[cF]at h1 h2;split at h1<;>split at h2
     .omega
     .split at h1
      .cases h1;have:=hlt _ _ h2;omega
      .cases h1
     .split at h2
      .cases h2;have:=hlt _ _ h1;omega
      .cases h2
     .exact r.2.2 i i' b h1 h2
  have F:∀j∈Region.ready md ops (lV fs os q),(∃(i:Nat)(f:Nat×Tmp×Obj),fs[i]? =some f/\os[i]? =some none/\j=f.1)\/((∀f∈fs,j≠f.1)/\j∈Region.ready md ops (qT fs q)):=by
   intro j z;by_cases hk:∃f∈fs,j=f.1
   .obtain⟨f,hf,rfl⟩:=hk
    obtain⟨i,hi⟩:=List.getElem?_of_mem hf
    have hlt:i<os.length:=by rw[r.1];exact(TG.1 hi).1
    cases s:os[i]? with
    |none=>rw[List.getElem?_eq_none_iff]at s;omega
    |some o=>
     cases o with
     |none=>exact VR ⟨i,f,hi,s,rfl⟩
     |some b=>
      have h1:=vk fs os q i f hi s;have h2:=(mem_ready.1 z).1;rw[h1]at h2;cases h2
   .have a9:∀f∈fs,j≠f.1:=fun f hf e=>hk ⟨f,hf,e⟩
    exact VS ⟨a9,se fs os q a9 z⟩
  have a4:ql os≠0-> ∃(i:Nat)(f:Nat×Tmp×Obj),fs[i]? =some f/\os[i]? =some none/\f.1∈Region.ready md ops (lV fs os q):=fun hp=>by
   obtain⟨i,s⟩:=By os hp
   have hlt:i<fs.length:=by rw[<- r.1];exact(TG.1 s).1
   refine⟨i,fs[i],ae hlt,s,vQ fs os q (fun i' b g h1 h2 e=>?_) (S i _ (ae hlt))⟩;obtain rfl:=Bz b0 h1 (ae hlt) e.symm;rw[s]at h2;cases h2
  cases ord with
  |nil=>
   have hp:ql os≠0:=by simp at hm;omega
   obtain⟨i0,f0,a8,c2,a6⟩:=a4 hp;have D:=hB;rw[show m+1+(ops.size-n)=m+(ops.size-n)+1 by omega];refine⟨fun h0=>(by rw[h0]at a6;cases a6),fun j z=>?_⟩
   obtain ⟨i,f,hi,s,rfl⟩|⟨_,E⟩:=F j z
   .exact H i f hi s
   .obtain hlt|hge:=dC n ops.size
    .obtain⟨k0,b5⟩:∃k0,ops.size-n=k0+1:=⟨ops.size-n-1,by omega⟩
     simp only[xE,b5,Region.seqB,am,aD]at D;rw[D.1]at E
     obtain rfl:j=n:=by simpa using E
     exact absurd z (xD hs (W f0 (aL a8)).1 (b3 f0 (aL a8)) K (mem_ready.1 a6).1 j (ag _))
    .simp only[xE,show ops.size-n=0 by omega,Region.seqB]at D
     rw[List.isEmpty_iff.1 D]at E;cases E
  |cons p a3=>
   obtain⟨i,t⟩:=p;have D:=hB
   cases s:ops[i]? with
   |none=>simp[xE,s]at hB
   |some o=>
   simp only[xE,am,aD,s]at D;obtain⟨⟨⟨⟨⟨h1,h2⟩,h3⟩,T⟩,h5⟩,h7⟩:=D
   have h1:i∈Region.ready md ops q:=by simpa using h1
   have T:∀f∈fs,i≠f.1:=fun f hf=>by simpa using an.1 T f hf
   have a5:=Gr h5;have N:i∈Region.ready md ops (lV fs os q):=vQ fs os q (fun _ _ f hf _=>T f (aL hf)) h1
   have a2:∀(j:Nat)(f:Nat×Tmp×Obj),fs[j]? =some f->f.1∈Region.ready md ops (q.setIfInBounds i true):=fun j f z=>ready_mono (S j f z) (fu (T f (aL z)))
   rw[show m+1+(ops.size-n)=m+(ops.size-n)+1 by omega]
   cases t with
   |true=>
    obtain⟨o',v,a1,hy,h⟩:=h
    obtain rfl:o=o':=by rw[s]at a1;cases a1;rfl
    simp only[bX]at h2;obtain⟨e1,e2⟩:=tB (ops:=ops) o (fun cs e=>Region.noSelect_spec L i o cs e s) fs os a (fun f hf=>(a5 f hf).1);have c0:YieldsIf P ops (fun y=>pu.contains i=true\/Below x x y) o v (We fs os a):=YieldsIf.of_same (hy.imp (fun⟨h1,h2⟩=>⟨h1,fun y c=>h2 y (Or.imp id (fun c=>hb.trans (c.mono hb.size)) c)⟩) id) e1 e2;have B:=ih a3 C (q.setIfInBounds i true) os (a.put o.dst v) w x (by simp at hm;omega) r M (by rw[nf];exact K.set N (cu.1 s).1) a2 h7 h hb;rw[nf,vP fs os a (fun f hf=>(a5 f hf).2)]at B;exact J4 Ys (HeadInv md ops ops.size) (fun l j h z _=>h.set z (Yg z)) s (Region.noSelect_spec L) (fun b7 l hl b9 j z=>xD hs h3 b7 hl b9 j z) (fun c a w=>b2 c a o.dst v w) _ _ _ x K (Gt (Region.free_spec s h2) fs os) N c0 B
   |false=>
    simp only[bC,de,aD]at h2;refine⟨fun h0=>(by rw[h0]at N;cases N),fun j z=>?_⟩
    obtain ⟨i',f,hi,a1,rfl⟩|⟨_,E⟩:=F j z
    .exact H i' f hi a1
    .rw[h2]at E
     obtain rfl:j=i:=by simpa using E
     refine wR s (fun cs e=>Region.noSelect_spec L j o cs e s) hQ fs os a5 (fun a' w' h'=>?_) (h x hb);refine⟨fun _=>h'.1,?_⟩;have B:=ih a3 _ (q.setIfInBounds j true) os a' w' w' (by simp at hm;omega) ⟨r.1,fun k b f hk hf=>?_,r.2.2⟩ (fun b X=>⟨M b (af h'.1.size X),VS X⟩) (by rw[nf];exact K.set N (cu.1 s).1) a2 h7 h'.2 (TH _ _)
     .rw[nf]at B;exact B
     .obtain⟨h8,h9⟩:=r.2.1 k b f hk hf
      have hlt:=TK h9;exact⟨⟨h8,VR hlt⟩,(h'.1.block b hlt).trans h9⟩
def Jk(md:Region.Mode)(ops:Array Oper)(n:Nat)(a:List Nat)(fs:List (Nat×Tmp×Obj))(ord:List (Nat×Bool)):Bool:=
 Region.noSelect ops&&decide (n<=ops.size)&&decide (ord.length+fs.length=n)&&MF md ops n a&& (fs.all fun f=>(Region.ready md ops (Array.replicate ops.size false)).contains f.1&& !a.contains f.1)&&xE md ops n fs ord (Array.replicate ops.size false)
def wS:∀(fs:List (Nat×Tmp×Obj))(l:Array Bool),lV fs (fs.map fun _=>none) l=l
 |[],_=>rfl
 |_::fs,l=>wS fs l
def BA:∀(fs:List (Nat×Tmp×Obj))(a:Act),We fs (fs.map fun _=>none) a=a
 |[],_=>rfl
 |_::fs,a=>BA fs a
def yZ:∀(fs:List (Nat×Tmp×Obj)),ql (fs.map fun _=>none)=fs.length
 |[]=>rfl
 |f::fs=>by
  have:=yZ fs;unfold ql at*;rw[aN,fI,this];rfl
def ic{id:Nat}{a:Act}{w:World}(n:Nat)(l:List Nat)(fs:List (Nat×Tmp×Obj))(ord:List (Nat×Bool))
 (v:P.follows .mixedOrders=true)(m:Jk .any ops n l fs ord=true)(q:Qv P ops n fs)
 (r:∀c a d u w,Q (.panic c) a w->Q (.panic c) (a.put (some d) u) w)(p:∀c a o u w,Q (.panic c) (a.put o u) w->Q (.panic c) a w)
 (h:Bx P ops Q n l fs (fun b=>w.heap.size<=b) ord a w.drew):(Code.region id ops true).wp P Q a w:=by
 simp only[Jk,am,aD]at m;obtain⟨⟨⟨⟨⟨g,x⟩,e⟩,A⟩,z⟩,y⟩:=m
 have k:∀f∈fs,f.1∈Region.ready .any ops (Array.replicate ops.size false)/\l.contains f.1=false:=fun f hf=>by
  have:=an.1 z f hf;simp only[am,di]at this;exact⟨by simpa using this.1,this.2⟩
 have:=MG (P:=P) (Q:=Q) (md:=.any) q (fun f hf=>(k f hf).2) g A x r p (ord.length+fs.length) ord _ (Array.replicate ops.size false) (fs.map fun _=>none) a w.drew w.drew (by rw[yZ])
  ⟨by simp,fun j b f h1 _=>by rw[aR]at h1;cases hx:fs[j]? <;>simp[hx]at h1,fun i j b h1 _=>by rw[aR]at h1;cases hx:fs[i]? <;>simp[hx]at h1⟩
  (fun b hb=>hb) (by rw[wS];exact⟨by simp,fun j B _ e=>(by rw[getD_replicate_false]at e;cases e),fun t h1 h2=>absurd h2 (by omega)⟩) (fun j f s=>(k f (aL s)).1) y h (TH _ _)
 rw[wS,BA,e,show n+(ops.size-n)=ops.size by omega]at this;exact wp_region_any v (vg _ _ _ _ this)
def gZ{n i:Nat}{c:List Nat}{fs:List (Nat×Tmp×Obj)}{C:Nat->Prop}{b:List (Nat×Bool)}{o:Oper}{v:Value}{a:Act}{w:World}(e:∀x,Below w w x->(execOp a.eval o).run P x=.ok (.value v) x)(h:Bx P ops Q n c fs C b (a.put o.dst v) w)(hi:ops.toList[i]? =some o:=by rfl)(hpu:c.contains i=false:=by rfl)(hw:Region.wanted o (yielded ops a.tmps)=true:=by rfl):Bx P ops Q n c fs C ((i,true)::b) a w:=
 ⟨o,v,by rw[<- bc];exact hi,VR ⟨hw,fun x d=>e x (d.resolve_left (by rw[hpu];decide))⟩,h⟩
def iy{n i:Nat}{c:List Nat}{fs:List (Nat×Tmp×Obj)}{C:Nat->Prop}{b:List (Nat×Bool)}{o:Oper}{v:Value}{a:Act}{w:World}(d:∀x,(execOp a.eval o).run P x=.ok (.value v) x)(h:Bx P ops Q n c fs C b (a.put o.dst v) w)(hi:ops.toList[i]? =some o:=by rfl)(hw:Region.wanted o (yielded ops a.tmps)=true:=by rfl):Bx P ops Q n c fs C ((i,true)::b) a w:=
 ⟨o,v,by rw[<- bc];exact hi,VR ⟨hw,fun x _=>d x⟩,h⟩
def nh{n i:Nat}{c:List Nat}{fs:List (Nat×Tmp×Obj)}{C:Nat->Prop}{b:List (Nat×Bool)}{o:Oper}{a:Act}{w:World}(hi:ops.toList[i]? =some o)
 (hw:Region.wanted o (yielded ops a.tmps)=false)
 (h:Bx P ops Q n c fs C b (a.put o.dst undef) w):Bx P ops Q n c fs C ((i,true)::b) a w:=
 ⟨o,undef,by rw[<- bc];exact hi,VS ⟨hw,rfl⟩,h⟩
def iK{n i:Nat}{d:List Nat}{fs:List (Nat×Tmp×Obj)}{C:Nat->Prop}{c:List (Nat×Bool)}{o:Oper}{a:Act}{w:World}(h:∀x,Below w w x-> ∀K:Act->World->Prop,(∀a' w',Below x.heap.size x w'->Bx P ops Q n d fs (fun b=>C b/\(b<x.heap.size\/w'.heap.size<=b)) c a' w'->K a' w')->o.wp P a x K Q)(hi:ops.toList[i]? =some o:=by rfl)(hg:o.guard=none:=by rfl):
 Bx P ops Q n d fs C ((i,false)::c) a w:=by
 have hw:Region.wanted o (yielded ops a.tmps)=true:=by simp[Region.wanted,hg]
 rw[bc]at hi;intro x e;unfold wpOp;simp only[hi,hw,bX];exact .inl (h x e _ fun a' w' h1 h2=>⟨h1,h2⟩)
def kH{n i:Nat}{d:List Nat}{fs:List (Nat×Tmp×Obj)}{C:Nat->Prop}{c:List (Nat×Bool)}{o:Oper}{a:Act}{w:World}(hi:ops.toList[i]? =some o)(hw:Region.wanted o (yielded ops a.tmps)=true)
 (h:∀x,Below w w x-> ∀K:Act->World->Prop,(∀a' w',Below x.heap.size x w'->Bx P ops Q n d fs (fun b=>C b/\(b<x.heap.size\/w'.heap.size<=b)) c a' w'->K a' w')->o.wp P a x K Q):
 Bx P ops Q n d fs C ((i,false)::c) a w:=by
 rw[bc]at hi;intro x e;unfold wpOp;simp only[hi,hw,bX];exact .inl (h x e _ fun a' w' h1 h2=>⟨h1,h2⟩)
def jV{n:Nat}{d:List Nat}{C:Nat->Prop}{a:Act}{w:World}{l:List Oper}(c:ops.toList.drop n=l)(h:∀w',Below w w w'->wpList P ops Q l a w'):Bx P ops Q n d [] C [] a w:=by
 subst c;intro bs w' b _ _ hb;obtain rfl:bs=[]:=aX.1 b;exact h w' hb
def nV{n k1:Nat}{g:List Nat}{d:Tmp}{c:Obj}{C:Nat->Prop}{a:Act}{w:World}{l:List Oper}(f:ops.toList.drop n=l)
 (h:∀b1 w',C b1->Below w w w'->w'.heap[b1]? =some c->wpList P ops Q l (a.put (some d) (.pointer (J b1))) w'):
 Bx P ops Q n g [(k1,d,c)] C [] a w:=by
 subst f;intro bs w' b h1 h2 hb
 match bs,b with
 |[b1],_=>
  obtain⟨c1,e⟩:=h1 0 b1 _ rfl rfl;exact h b1 w' c1 hb e
end
def rH(l:List Int)(i j:Nat)(v:Int):(l.set i v).getD j 0=if i=j/\i<l.length then v else l.getD j 0:=by
 simp only[ah,cF];by_cases h:i=j
 .subst h
  by_cases h2:i<l.length
  .simp[h2]
  .simp[h2]
 .simp[h]
def P1(xs ys:List Int)(n k:Nat)(a:List Int):Prop:=
 a.length=n+1/\(∀j,0<=a.getD j 0/\a.getD j 0<=1999999998)/\(∀j,k<=j->a.getD j 0<1000000000)/\a.getD n 0=0/\val a=val xs+val (ys.take k)
def P2(v:Int)(n k:Nat)(a:List Int):Prop:=
 a.length=n+1/\(∀j,0<=a.getD j 0/\a.getD j 0<=1999999999)/\(∀j,j<k->a.getD j 0<1000000000)/\(∀j,k<j->a.getD j 0<=1999999998)/\
  (k<n->a.getD n 0=0)/\(k=n->a.getD n 0<=1)/\val a=v
def T1(xs ys:List Int)(i:Nat)(a:List Int):Prop:=
 a.length=xs.length+ys.length/\(∀j,0<=a.getD j 0/\a.getD j 0<1000000000)/\(∀j,i+ys.length<=j->a.getD j 0=0)/\val a=val (xs.take i)*val ys
def T2(xs ys:List Int)(i k:Nat)(a:Int)(b:List Int):Prop:=
 b.length=xs.length+ys.length/\(∀j,0<=b.getD j 0/\b.getD j 0<1000000000)/\(∀j,i+ys.length<=j->b.getD j 0=0)/\0<=a/\a<1000000000/\
  val b+a*1000000000^(i+k)=val (xs.take i)*val ys+xs.getD i 0*val (ys.take k)*1000000000^i
def vj{x y:Int}(c:0<=x/\x<1000000000)(b:0<=y/\y<1000000000):0<=x*y/\x*y<=999999998000000001:=by
 refine⟨eH c.1 b.1,?_⟩;have a:x*y<=999999999*y:=bB (by omega) b.1;omega
def LG(N:Nat)(w:World)(s:Bool)(a:Option Addr)(n c:Nat)(z:Int):Prop:=
 s=decide (z<0)/\SL N w a n c (ip z.natAbs)/\n<=600
def LG.mono{N M w s a n c z}(h:LG N w s a n c z)(b:N<=M):LG M w s a n c z:=⟨h.1,h.2.1.mono b,h.2.2⟩
def LG.go{w w' s a n c z}(h:LG w.heap.size w s a n c z)(hb:Below w.heap.size w w'):LG w'.heap.size w' s a n c z:=⟨h.1,h.2.1.go hb,h.2.2⟩
def S3(w:World)(z:Int)(e:Ending)(w':World):Prop:=
 ∃s a n c,e=.returned (.tuple #[.agg #[.bool s,Z a n c],oZ])/\LG w' w' s a n c z/\Below w w w'/\kS w a n
def LG.setCell{N w s a n c z}(h:LG N w s a n c z)(p:Addr)(u:Value)(d:∀b off,a=some ⟨b,off,none⟩->0<n->b≠p.block):LG N (w.setCell p u) s a n c z:=
 ⟨h.1,h.2.1.setCell p u d,h.2.2⟩
def tb(w:World)(z:Int)(e:Ending)(w':World):Prop:=
 ∃s a n c,e=.returned (.agg #[.bool s,Z a n c])/\LG w' w' s a n c z/\Below w w w'/\kS w a n
def xB{k:Int}(h:k<0):k.tmod 1000000000= -((-k)%1000000000):=by
 rw[show k.tmod 1000000000= -((-k).tmod 1000000000)by rw[Int.neg_tmod];omega,bu (by omega)]
def xC{k:Int}(h:k<0):k.tdiv 1000000000= -((-k)/1000000000):=by
 rw[show k.tdiv 1000000000= -((-k).tdiv 1000000000)by rw[Int.neg_tdiv];omega,bL (by omega)]
def iN(w:World)(o p:Obj):((w.alloc o).alloc p).heap[w.heap.size]? =some o/\((w.alloc o).alloc p).heap[w.heap.size+1]? =some p:=by
 constructor
 .rw[TJ _ _ _ (by simp)];exact TL _ _
 .have:=TL (w.alloc o) p
  simpa using this
def nu(n:Int)(h1: -9223372036854775808<=n)(h2:n<=9223372036854775807):(ip n.natAbs).length<=3:=
 iB (by simp;omega)
def oF(w:World)(o p q:Obj):Below w w (((w.alloc o).alloc p).alloc q):=(((TH _ _).alloc (ag _) _).alloc (by simp) _).alloc (by simp;omega) _
def iH{w:World}(o p:Obj):Below w w ((w.alloc o).alloc p):=((TH _ _).alloc (ag _) _).alloc (by simp) _
def oG(x y:Int):Int:=if x<y then -1 else if y<x then 1 else 0
structure LP where
 s:Bool
 a:Option Addr
 n:Nat
 c:Nat
def LP.cells(p:LP):List Value:=[.bool p.s,.slice p.a p.n p.c]
def flat(a:List LP):List Value:=a.flatMap LP.cells
def LP.none:LP:=⟨false,Option.none,0,0⟩
def LP.at(N:Nat)(w:World)(p:LP)(z:Int):Prop:=LG N w p.s p.a p.n p.c z
def LP.above(p:LP)(B:Nat):Prop:=∀b off,p.a=some ⟨b,off,Option.none⟩->0<p.n->B<=b
def LP.off(p:LP)(g:Nat):Prop:=∀b off,p.a=some ⟨b,off,Option.none⟩->0<p.n->b≠g
def TD(N base:Nat)(w:World)(g cap:Nat)(zs:List Int):Prop:=
 ∃a:List LP,base<=g/\g<N/\w.ownsRow base 178 2 (.slice (J g) zs.length cap) zs.length (flat a)/\a.length=zs.length/\
  ∀j,j<zs.length->LP.at N w (a.getD j LP.none) (zs.getD j 0)/\(a.getD j LP.none).off g/\(a.getD j LP.none).above base
structure TQ (b:Nat) (w w':World):Prop where
 os:w'.os=w.os
 tape:w'.tape=w.tape
 output:w'.output=w.output
 size:w'.heap.size=w.heap.size
 block:∀k,k≠b->w'.heap[k]? =w.heap[k]?
def TQ.refl(b:Nat)(w:World):TQ b w w:=⟨rfl,rfl,rfl,rfl,fun _ _=>rfl⟩
def TQ.set{b:Nat}{w w':World}(h:TQ b w w')(i:Nat)(u:Value):TQ b w (w'.setCell ⟨b,i,none⟩ u):=
 ⟨h.os,h.tape,h.output,by simp[h.size],fun k a=>(TI _ _ _ _ a).trans (h.block k a)⟩
def TQ.below{b B:Nat}{w w':World}(h:TQ b w w')(a:B<=b):Below B w w':=⟨h.os,h.tape,h.output,by rw[h.size];exact ag _,fun k c=>h.block k (by omega)⟩
def TQ.cell{b:Nat}{w w':World}(h:TQ b w w'){p:Addr}(a:p.block≠b):w'.cell? p=w.cell? p:=World.cell?_of_block (w:=w) (h.block p.block a)
def VV{w:World}{b:Nat}{cs:Array Value}{T:TypeId}(h:w.heap[b]? =some (.cells cs T (0,0)))(i:Nat):w.cell? ⟨b,i,none⟩=cs[i]? :=by simp[World.cell?,h]
def gD{w:World}{b:Nat}{cs:Array Value}{T:TypeId}(h:w.heap[b]? =some (.cells cs T (0,0)))(i:Nat):w.frozen? ⟨b,i,none⟩=false:=by simp[World.frozen?,h]
structure EH (s:List UInt8) (p:Nat) where
 neg:Bool
 w:List UInt8
 f:List UInt8
 hw:w.all ma=true
 wne:w≠[]
 w0:w.length=1\/w.head?≠some 48
 hf:f.all ma=true
 fl:f.getLast?≠some 48
 fp:f.length=p
 eq:s=(if neg then[45]else[])++(w++(if f=[]then[]else 46::f))
 un:(oS s).1=neg
theorem GS{s:List UInt8}{p:Nat}(h:li s=some p):Nonempty (EH s p):=by
 unfold li at h;split at h
 .cases h
 .obtain⟨w,f,h1,h2,h3,a,h5,b,c⟩:=GR h
  refine⟨⟨(oS s).1,w,f,h1,h2,h3,a,h5,b,?_,rfl⟩⟩;rw[<- c];unfold oS;split<;>rfl
def Dc{s:List UInt8}{p:Nat}(q:EH s p):s.filter ma=q.w++q.f:=by
 have b:ma 46=false:=rfl;have a:ma 45=false:=rfl;refine(ai (List.filter ma) q.eq).trans ?_;rw[dO,dO,sF q.hw]
 have h1:(if q.neg=true then[45]else([]:List UInt8)).filter ma=[]:=by
  split
  .rw[dE,a];rfl
  .rfl
 have h2:(if q.f=[]then([]:List UInt8)else 46::q.f).filter ma=q.f:=by
  split
  .rename_i e;rw[e];rfl
  .rw[dE,b,sF q.hf];rfl
 rw[h1,h2,bD]
section
variable{B:Nat}{P:Program}{ops:Array Oper}{Q:Exit->Act->World->Prop}{md:Region.Mode}
def Ec(B:Nat)(P:Program)(ops:Array Oper)(Q:Exit->Act->World->Prop):List Nat->Nat->Array Bool->Act->World->Prop
 |[],m,listed,a,w=>Pb (Below B) P .any ops Q ops.size m listed a w
 |i::rest,m,listed,a,w=>∃o v,ops[i]? =some o/\YieldsIf P ops (fun x=>false=true\/Below B w x) o v a/\Ec B P ops Q rest m (listed.setIfInBounds i true) (a.put o.dst v) w
def CU(ops:Array Oper):List Nat->Array Bool->Bool
 |[],_=>true
 |i::rest,listed=>(Region.ready .any ops listed).contains i&&Region.free .any ops listed i&&CU ops rest (listed.setIfInBounds i true)
def vR(e:Region.noSelect ops=true)(g:∀c a o u w,Q (.panic c) (a.put o u) w->Q (.panic c) a w):
 ∀(d:List Nat)(m:Nat)(b:Array Bool)(a:Act)(w:World),CU ops d b=true->Ec B P ops Q d m b a w->Pb (Below B) P .any ops Q ops.size (d.length+m) b a w
 |[],m,b,a,w,_,h=>by rw[cI,aV];exact h
 |i::d,m,b,a,w,hB,h=>by
  simp only[CU,am]at hB;obtain⟨⟨h1,h2⟩,h3⟩:=hB;obtain⟨o,v,k,n,h⟩:=h
  have h1:i∈Region.ready .any ops b:=by simpa using h1
  have f:=vR e g d m (b.setIfInBounds i true) (a.put o.dst v) w h3 h;rw[show(i::d).length+m=(d.length+m)+1 by rw[aH];omega];exact J4 (Yr B) (fun _=>True) (fun _ _ _ _ _=>trivial) k (Region.noSelect_spec e) (fun _ _ _ _ j p l=>absurd (Yg l) (by omega)) (fun c a w=>g c a o.dst v w) _ _ _ w trivial (Region.free_spec k h2) h1 n f
def jw{id:Nat}{a:Act}{w:World}(B:Nat)(d:List Nat)(m:Nat)
 (i:P.follows .mixedOrders=true)(f:ops.size=d.length+m)(b:Region.noSelect ops=true)(g:CU ops d (Array.replicate ops.size false)=true)
 (e:∀c a o u w,Q (.panic c) (a.put o u) w->Q (.panic c) a w)
 (h:Ec B P ops Q d m (Array.replicate ops.size false) a w.drew):(Code.region id ops true).wp P Q a w:=by
 have:=vR b e d m (Array.replicate ops.size false) a w.drew g h;rw[<- f]at this;exact wp_region_any i (vg _ _ _ _ this)
def jW{i m:Nat}{c:List Nat}{o:Oper}{v:Value}{b:Array Bool}{a:Act}{w:World}(hi:ops.toList[i]? =some o)
 (hw:Region.wanted o (yielded ops a.tmps)=true)(e:∀x,Below B w x->(execOp a.eval o).run P x=.ok (.value v) x)
 (h:Ec B P ops Q c m (b.setIfInBounds i true) (a.put o.dst v) w):Ec B P ops Q (i::c) m b a w:=
 ⟨o,v,by rw[<- bc];exact hi,VR ⟨hw,fun x d=>e x (d.resolve_left (by decide))⟩,h⟩
def mB{m:Nat}{b:Array Bool}{a:Act}{w:World}(h:Pb (Below B) P .any ops Q ops.size m b a w):Ec B P ops Q [] m b a w:=h
def ia{n fuel i:Nat}{o:Oper}{b:Array Bool}{a:Act}{w:World}(h:∀K:Act->World->Prop,(∀a' w',Below B w w'->Pb (Below B) P md ops Q n fuel (b.setIfInBounds i true) a' w'->K a' w')->o.wp P a w K Q)(d:Region.ready md ops b=[i]:=by kernel_rfl)(hi:ops.toList[i]? =some o:=by rfl)(hg:o.guard=none:=by rfl):Pb (Below B) P md ops Q n (fuel+1) b a w:=by
 have hw:Region.wanted o (yielded ops a.tmps)=true:=by simp[Region.wanted,hg]
 rw[bc]at hi;refine⟨fun h0=>(by rw[d]at h0;cases h0),fun j c=>?_⟩;rw[d]at c
 obtain rfl:j=i:=by simpa using c
 unfold wpOp;simp only[hi,hw,bX];exact .inl (h _ fun a' w' h1 h2=>⟨fun _=>h1,h2⟩)
def lH{n:Nat}{b:Array Bool}{a:Act}{w:World}(c:Region.ready md ops b=[])(h:Q .normal a w):Pb (Below B) P md ops Q n 0 b a w:=⟨c,h⟩
end
def Si(s:Bool)(m:Nat):Int:=if s then -(m:Int)else m
def QR(z:Int):Si (decide (z<0)) z.natAbs=z:=by
 unfold Si;by_cases h:z<0
 .rw[aP h,aq rfl];omega
 .rw[aw h,aj (by decide)];omega
def XV(s:Bool){m g:Nat}(h:g ∣ m):Si s (m/g)=Si s m/g:=by
 unfold Si;cases s
 .simp
 .simp only[bX]
  rw[Int.natCast_ediv,Int.neg_ediv_of_dvd (Int.natCast_dvd_natCast.2 h)]
def zA(n:Int){d:Nat}(a:d≠0):(mkRat n d).num=n/(n.natAbs.gcd d:Nat)/\(mkRat n d).den=d/n.natAbs.gcd d:=by
 rw[fX,eJ a,Rat.normalize_eq];exact⟨rfl,rfl⟩
def B8:∀(l:List UInt8)(a:Nat),a<=mX a l
 |[],a=>by rw[mE];exact ag _
 |b::l,a=>by rw[lO];exact af (by omega) (B8 l _)
def qC:∀(l:List UInt8)(a:Nat),a<18446744073709551616->(∀b∈l,ma b=true)->parseUint10 a l=if mX a l<18446744073709551616 then .ok (mX a l)else .range
 |[],a,h,_=>by rw[mE,aq h,parseUint10]
 |b::l,a,h,hd=>by
  obtain⟨k,d,rfl⟩:=vY (hd b (aG));have f:=B8 l (10*a+(48+k-48));rw[parseUint10,lA d,aq (by omega),lO,lA d];by_cases h1:1844674407370955162<=a
  .rw[aq h1,aj (by omega)]
  .rw[aj h1]
   by_cases h2:18446744073709551616<=a*10+(48+k-48)
   .rw[aq h2,aj (by omega)]
   .rw[aj h2,show a*10+(48+k-48)=10*a+(48+k-48)by omega]
    exact qC l _ (by omega) (fun c e=>hd c (au _ e))
def zD{l:List UInt8}(d:l≠[])(g:∀b∈l,ma b=true)(neg:Bool):atoiAll ((if neg then[45]else[])++l)=if(if neg then -((mX 0 l:Nat):Int)else((mX 0 l:Nat):Int)) < -9223372036854775808\/9223372036854775807<(if neg then -((mX 0 l:Nat):Int)else((mX 0 l:Nat):Int))then .range else .ok (if neg then -((mX 0 l:Nat):Int)else((mX 0 l:Nat):Int)):=by
 have i:parseMag l=if mX 0 l<18446744073709551616 then .ok (mX 0 l)else .range:=by
  unfold parseMag;rw[aj d];exact qC l 0 (by omega) g
 cases neg with
 |true=>
  have e:((if true=true then[45]else[])++l:List UInt8)=45::l:=rfl;rw[e];unfold atoiAll;have f:(45:UInt8).toNat=45:=rfl;simp only[f,or_true,bX];rw[i];by_cases a:mX 0 l<18446744073709551616
  .rw[aq a]
   simp only[];by_cases h2:9223372036854775808<mX 0 l
   .rw[aj (by simp),aq ⟨trivial,h2⟩,aq (by omega)]
   .rw[aj (by simp),aj (fun h=>h2 h.2),aj (by omega)]
  .rw[aj a]
   simp only[];rw[aq (by omega)]
 |false=>
  have e:((if false=true then[45]else[])++l:List UInt8)=l:=rfl;rw[e]
  cases l with
  |nil=>exact absurd rfl d
  |cons c r=>
   obtain⟨k,m,rfl⟩:=vY (g c (aG));unfold atoiAll;simp only[lA m];rw[aj (by omega),i];generalize mX 0 (UInt8.ofNat (48+k)::r)=v;by_cases a:v<18446744073709551616
   .rw[aq a]
    have j:¬(48+k=45):=by omega
    simp only[j,bC,de,not_false_eq_true,true_and,false_and];by_cases h2:9223372036854775808<=v
    .rw[aq h2,aq (by omega)]
    .rw[aj h2,aj (by omega)]
   .rw[aj a]
    simp only[bC,de];rw[aq (by omega)]
def zE:∀(k a:Nat),mX a (List.replicate k 48)=a*10^k
 |0,a=>by rw[BW,mE];omega
 |k+1,a=>by
  have b:(48:UInt8).toNat=48:=rfl;rw[ew,lO,zE k,b,bM];rw[eC,bE,gu 10 a,VT,gu 10]
def GT{s:List UInt8}{p:Nat}(q:EH s p)(k:Nat):atoiAll ((if q.neg then[45]else[])++(q.w++q.f++List.replicate k 48))=if wg s*10^k< -9223372036854775808\/9223372036854775807<wg s*10^k then .range else .ok (wg s*10^k):=by
 have c:∀b∈q.w++q.f++List.replicate k 48,ma b=true:=by
  intro b hb
  obtain hb|hb:=bj.1 hb
  .obtain hb|hb:=bj.1 hb
   .exact an.1 q.hw b hb
   .exact an.1 q.hf b hb
  .rw[List.eq_of_mem_replicate hb];rfl
 have a:q.w++q.f++List.replicate k 48≠[]:=by
  intro e;exact q.wne (eY.1 (eY.1 e).1).1
 have d:(if q.neg then -((mX 0 (q.w++q.f++List.replicate k 48):Nat):Int)else((mX 0 (q.w++q.f++List.replicate k 48):Nat):Int))=wg s*10^k:=by
  unfold wg;rw[q.un,qZ,zE,Dc q]
  cases q.neg with
  |true=>
   simp only[bX];rw[bW,dM,Int.neg_mul];rfl
  |false=>
   simp only[bC,de];rw[bW,dM];rfl
 rw[zD a c,d]
section
def Tryz.lays156_ren:Go.Shelf.Ren:=⟨fun|156=>39|165=>72|166=>38|169=>18|240=>71|241=>108|276=>107|277=>158|n=>n,fun|31=>88|9=>9|3=>3|4=>4|0=>0|20=>20|72=>71|76=>121|70=>69|37=>24|75=>120|127=>129|164=>197|5=>5|80=>85|n=>n,fun|n=>n⟩
def Tryz.lays156:Go.Proofs.Lays.n156 prog Tryz.lays156_ren:=by repeat' (first|(intros;kernel_rfl)|decide|constructor)
def Tryz.Builder_Extra_156:Builder.Extra prog Tryz.lays156_ren:=by repeat' (first|(intros;kernel_rfl)|decide|constructor)
open Go.RowKit in
def Tryz.strings_Join(d o c:Nat)(xs:List ByteArray)(b:ByteArray)(w:World)(a:∀(j:Nat) x,xs[j]? =some x->w.cell? ⟨d,o+j,none⟩=some (.string x))(h:d<w.heap.size)(i:xs.length<=140737488355328)(f:xs.length<=c)(g:(Lib.join (xs.map (·.data.toList)) b.data.toList).length<=140737488355328):
 Calls prog 39 #[.slice (some ⟨d,o,none⟩) xs.length c,.string b] w fun e w'=>e=.returned (.string ⟨(Lib.join (xs.map (·.data.toList)) b.data.toList).toArray⟩)/\Below w.heap.size w w':=Any.strings_Join Tryz.lays156 Tryz.Builder_Extra_156 d o c xs b w a h i f g
def Tryz.lays162_ren:Go.Shelf.Ren:=⟨fun|162=>112|232=>163|227=>164|234=>165|236=>166|228=>200|271=>201|151=>202|120=>224|197=>225|152=>226|260=>238|137=>239|119=>240|224=>214|225=>213|217=>212|266=>235|n=>n,fun|9=>9|4=>4|3=>3|5=>5|117=>240|116=>239|0=>0|124=>243|21=>21|105=>277|46=>233|119=>310|139=>313|138=>312|n=>n,fun|3=>8|4=>9|n=>n⟩
def Tryz.lays162:Go.Proofs.Lays.n162 prog Tryz.lays162_ren:=by repeat' (first|(intros;kernel_rfl)|decide|constructor)
open Go.RowKit in
def Tryz.strings_TrimRight_one(s:ByteArray)(c:UInt8)(a:c.toNat<128)(w:World)(b:s.size<=9223372036854775807):
 Calls prog 112 #[.string s,.string ⟨#[c]⟩] w fun e w'=>e=.returned (.string ⟨(Lib.trimRightB s.data.toList c).toArray⟩)/\w'=w:=Any.strings_TrimRight_one Tryz.lays162 s c a w b
def Tryz.laysM171_ren:Go.Shelf.Ren:=⟨fun|171=>74|243=>113|246=>167|283=>203|284=>204|285=>205|286=>206|129=>228|317=>227|318=>229|319=>230|320=>231|337=>241|338=>242|n=>n,fun|3=>3|9=>9|2=>2|4=>4|171=>280|0=>0|53=>274|37=>24|5=>5|173=>283|212=>298|51=>271|20=>20|213=>299|46=>233|232=>314|233=>315|n=>n,fun|17=>6|18=>10|19=>11|n=>n⟩
def Tryz.laysM171:Go.Proofs.LaysM.n171 prog Tryz.laysM171_ren:=by repeat' (first|(intros;kernel_rfl)|decide|constructor)
open Go.RowKit Go.Sort Go.Lib in
def Tryz.strconv_Itoa(n:Int)(h0: -9223372036854775808<=n)(h1:n<=9223372036854775807)(w:World)(a:Lib.TabIs prog w "internal/strconv.uint64pow10" .u64 Lib.pow10Tab):
 Calls prog 74 #[.int .i64 n] w fun e w'=>e=.returned (.string ⟨(Lib.itoa n).toArray⟩)/\ ∃k os,w'=grow (w.drewN k) os:=Any.strconv_Itoa Tryz.laysM171 n h0 h1 w a
def Tryz.laysC172_ren:Go.Shelf.Ren:=⟨fun|172=>233|244=>243|245=>244|247=>246|279=>247|280=>248|281=>249|282=>250|287=>252|316=>253|171=>74|205=>254|321=>256|322=>257|243=>113|246=>167|283=>203|284=>204|285=>205|286=>206|129=>228|317=>227|318=>229|319=>230|320=>231|337=>241|338=>242|n=>n,fun|9=>9|3=>3|75=>120|76=>121|4=>4|5=>5|167=>316|37=>24|0=>0|85=>317|2=>2|168=>319|53=>274|175=>323|46=>233|210=>327|127=>129|145=>332|143=>330|21=>21|171=>280|173=>283|212=>298|51=>271|20=>20|213=>299|232=>314|233=>315|80=>85|n=>n,fun|15=>12|16=>13|17=>6|18=>10|19=>11|n=>n⟩
def Tryz.laysC172:Go.Proofs.LaysC.n172 prog Tryz.laysC172_ren:=by repeat' (first|(intros;kernel_rfl)|decide|constructor)
open Go.RowKit in
def Tryz.strconv_Atoi_ok(s:ByteArray)(a:s.size<=9223372036854775806)(v:Int)(h:Lib.atoiAll s.data.toList=.ok v)(w:World):
 Calls prog 233 #[.string s] w fun e w'=>e=.returned (.tuple #[.int .i64 v,.nilIface])/\(w'=w\/ ∃t,w'=Lib.bytesWorld w 5 t):=Any.strconv_Atoi_ok Tryz.laysC172 s a v h w
open Go.RowKit in
def Tryz.strconv_Atoi_range_var(s:ByteArray)(a:s.size<=281474976710656)(h:Lib.atoiAll s.data.toList=.range)(c:TypeId)(p:Value)(w:World)(b:w.var? prog "strconv.ErrRange" =some #[.iface c p]):
 Calls prog 233 #[.string s] w fun e w'=>∃N,e=.returned (.tuple #[.int .i64 (Lib.atoiSat s.data.toList),.iface 319 (.pointer (some ⟨N,0,none⟩))])/\w.heap.size<=N/\w'.heap[N]? =some (.cells #[.string ⟨#[65,116,111,105]⟩,.string s,.iface c p] 327 (0,0))/\Below w.heap.size w w':=Any.strconv_Atoi_range_var Tryz.laysC172 s a h c p w b
def Tryz.lays143_ren:Go.Shelf.Ren:=⟨fun|143=>126|219=>177|217=>212|225=>213|224=>214|267=>215|266=>235|314=>236|n=>n,fun|9=>9|3=>3|4=>4|5=>5|46=>233|146=>272|51=>271|n=>n,fun|1=>5|n=>n⟩
open Go.RowKit Go.Lib in
open Go.RowKit Go.Lib in
def Tryz.lays138_ren:Go.Shelf.Ren:=⟨fun|138=>81|195=>124|218=>125|143=>126|219=>177|217=>212|225=>213|224=>214|267=>215|266=>235|314=>236|n=>n,fun|9=>9|3=>3|4=>4|5=>5|0=>0|46=>233|146=>272|51=>271|n=>n,fun|1=>5|n=>n⟩
def Tryz.lays138:Go.Proofs.Lays.n138 prog Tryz.lays138_ren:=by repeat' (first|(intros;kernel_rfl)|decide|constructor)
open Go.RowKit Go.Lib in
def Tryz.strings_Count_one(s:ByteArray)(c:UInt8)(w:World):
 Calls prog 81 #[.string s,.string ⟨#[c]⟩] w fun e w'=>e=.returned (.int .i64 (Lib.countByte s.data.toList c))/\w'=w:=Any.strings_Count_one Tryz.lays138 s c w
def Tryz.lays101_ren:Go.Shelf.Ren:=⟨fun|101=>109|208=>159|206=>197|n=>n,fun|9=>9|4=>4|3=>3|n=>n,fun|n=>n⟩
def Tryz.lays101:Go.Proofs.Lays.n101 prog Tryz.lays101_ren:=by repeat' (first|(intros;kernel_rfl)|decide|constructor)
open Go.RowKit Go.Lib in
def Tryz.strings_TrimPrefix(s p:ByteArray)(w:World):
 Calls prog 109 #[.string s,.string p] w fun e w'=>e=.returned (.string ⟨(Lib.trimPrefix s.data.toList p.data.toList).toArray⟩)/\w'=w:=Any.strings_TrimPrefix Tryz.lays101 s p w
open Go.RowKit Go.Lib in
def Tryz.lays221_ren:Go.Shelf.Ren:=⟨fun|221=>173|268=>208|138=>81|143=>126|195=>124|197=>225|218=>125|219=>177|260=>238|217=>212|225=>213|224=>214|267=>215|266=>235|314=>236|n=>n,fun|9=>9|3=>3|31=>88|4=>4|0=>0|105=>277|21=>21|5=>5|46=>233|119=>310|139=>313|138=>312|146=>272|51=>271|n=>n,fun|1=>5|3=>8|4=>9|n=>n⟩
def Tryz.lays146_ren:Go.Shelf.Ren:=⟨fun|146=>118|221=>173|268=>208|138=>81|143=>126|195=>124|197=>225|218=>125|219=>177|260=>238|217=>212|225=>213|224=>214|267=>215|266=>235|314=>236|n=>n,fun|9=>9|31=>88|3=>3|4=>4|0=>0|105=>277|21=>21|5=>5|46=>233|119=>310|139=>313|138=>312|146=>272|51=>271|n=>n,fun|1=>5|3=>8|4=>9|n=>n⟩
def Tryz.lays146:Go.Proofs.Lays.n146 prog Tryz.lays146_ren:=by repeat' (first|(intros;kernel_rfl)|decide|constructor)
open Go.RowKit Go.Lib in
def Tryz.strings_Split(s a:ByteArray)(m:Int)(w:World)(c:s.size<4294967281)(b:w.cell? ⟨5,0,none⟩=some (.int .i64 m))(h1:1<=a.size):
 Calls prog 118 #[.string s,.string a] w fun e w'=>
  e=.returned (.slice (some ⟨w.heap.size,0,none⟩) (Lib.countB s a+1) (Lib.countB s a+1))/\w'=w.alloc (.cells ((Lib.splitB a 0 (Lib.countB s a) s).map Value.string).toArray 9):=Any.strings_Split Tryz.lays146 (by kernel_rfl) s a m w c b h1
def Tryz.lays154_ren:Go.Shelf.Ren:=⟨fun|154=>234|138=>81|165=>72|143=>126|166=>38|197=>225|169=>18|195=>124|218=>125|240=>71|241=>108|219=>177|260=>238|276=>107|277=>158|217=>212|225=>213|224=>214|267=>215|266=>235|314=>236|n=>n,fun|9=>9|3=>3|4=>4|72=>71|0=>0|76=>121|105=>277|21=>21|5=>5|70=>69|20=>20|37=>24|75=>120|127=>129|164=>197|46=>233|119=>310|139=>313|138=>312|146=>272|51=>271|80=>85|n=>n,fun|1=>5|3=>8|4=>9|n=>n⟩
def Tryz.lays154:Go.Proofs.Lays.n154 prog Tryz.lays154_ren:=by repeat' (first|(intros;kernel_rfl)|decide|constructor)
def Tryz.Builder_Extra_154:Builder.Extra prog Tryz.lays154_ren:=by repeat' (first|(intros;kernel_rfl)|decide|constructor)
open Go.RowKit Go.Lib in
def Tryz.strings_Replace(s a b:ByteArray)(n:Int)(m:Int)(w:World)(f:s.size<4294967281)(d:w.cell? ⟨5,0,none⟩=some (.int .i64 m))(h1:1<=a.size)(c:s.size+Lib.countB s a*b.size<=140737488355328):
 Calls prog 234 #[.string s,.string a,.string b,.int .i64 n] w fun e w'=>
  e=.returned (.string ⟨(Lib.replace s.data.toList a.data.toList b.data.toList n).toArray⟩)/\Below w.heap.size w w':=Any.strings_Replace Tryz.lays154 Tryz.Builder_Extra_154 s a b n m w f d h1 c
def Tryz.lays105_ren:Go.Shelf.Ren:=⟨fun|105=>110|212=>160|99=>161|165=>72|166=>38|170=>162|169=>18|263=>198|264=>199|206=>197|240=>71|241=>108|276=>107|277=>158|n=>n,fun|9=>9|3=>3|4=>4|20=>20|0=>0|46=>233|109=>234|5=>5|72=>71|76=>121|51=>271|146=>272|53=>274|148=>275|70=>69|37=>24|75=>120|127=>129|164=>197|80=>85|n=>n,fun|n=>n⟩
def Tryz.lays105:Go.Proofs.Lays.n105 prog Tryz.lays105_ren:=by repeat' (first|(intros;kernel_rfl)|decide|constructor)
def Tryz.Builder_Extra_105:Builder.Extra prog Tryz.lays105_ren:=by repeat' (first|(intros;kernel_rfl)|decide|constructor)
open Go.RowKit Go.Lib in
def Tryz.strings_Repeat(s:ByteArray)(c:Nat)(w:World)(b:c<=9223372036854775807)(a:s.size*c<=140737488355328):
 Calls prog 110 #[.string s,.int .i64 c] w fun e w'=>e=.returned (.string ⟨(Lib.repeatL s.data.toList c).toArray⟩)/\Below w.heap.size w w':=Any.strings_Repeat Tryz.lays105 Tryz.Builder_Extra_105 s c w b a
def Tryz.lays229_ren:Go.Shelf.Ren:=⟨fun|229=>119|n=>n,fun|9=>9|40=>206|31=>88|152=>250|3=>3|0=>0|4=>4|21=>21|154=>252|n=>n,fun|n=>n⟩
def Tryz.lays229:Go.Proofs.Lays.n229 prog Tryz.lays229_ren:=by repeat' (first|(intros;kernel_rfl)|decide|constructor)
open Go.RowKit Go.Lib in
def Tryz.strings_FieldsFunc_grows(g:Nat)(a:Array Value)(b:∀args w,(callFunc g args).run prog w=.ok (.enter g args) w)(p:Nat->Bool)(s:ByteArray)(w:World)(d:s.size<=4294967296)(c:PredGrows prog g a p w):
 Calls prog 119 #[.string s,.func (.func g) #[] a] w fun e w'=>∃A,e=.returned (.slice (some ⟨A,0,none⟩) (Lib.goFieldsP p s).length (Lib.goFieldsP p s).length)/\w.heap.size<=A/\
  w'.ownsRow w.heap.size 9 1 (.slice (some ⟨A,0,none⟩) (Lib.goFieldsP p s).length (Lib.goFieldsP p s).length) (Lib.goFieldsP p s).length ((Lib.goFieldsP p s).map Value.string)/\Below w.heap.size w w':=Any.strings_FieldsFunc_grows Tryz.lays229 g a b p s w d c (by kernel_rfl) (by kernel_rfl)
end
def dl:Nat->Nat->List UInt8
 |0,_=>[]
 |m+1,u=>UInt8.ofNat (48+u%10)::dl m (u/10)
def wt:∀m u,(dl m u).length=m
 |0,_=>rfl
 |m+1,u=>by rw[dl,aH,wt m]
def YU:∀(m u:Nat),dl (m+1) u=dl m u++[UInt8.ofNat (48+u/10^m%10)]
 |0,u=>by simp[dl]
 |m+1,u=>by
  rw[dl,YU m (u/10),dl,bF,eX];rw[show 10*10^m=10^(m+1)by rw[bM,gu]]
def Px:∀m,dl m 0=List.replicate m 48
 |0=>rfl
 |m+1=>by rw[dl,fx,fy,Px m];rfl
def ZJ:∀(u m:Nat),nDigits u<=m->dl m u=(decDigits u).reverse++List.replicate (m-nDigits u) 48:=by
 intro u
 induction u using Nat.strongRecOn with
 |_ u ih=>
  intro m b;have c:=nDigits_pos u;obtain⟨k,rfl⟩:∃k,m=k+1:=⟨m-1,by omega⟩;by_cases a:u<10
  .rw[nDigits_small a,nw a,dl,cV a,eO a,Px];rfl
  .rw[nDigits_big a]at b⊢
   have h2:=ih (u/10) (by omega) k (by omega);rw[decDigits,eJ a,dl,h2,List.reverse_append];rw[show k+1-(nDigits (u/10)+1)=k-nDigits (u/10)by omega];rfl
def YV:∀(m k u:Nat),k<=m->(dl m u).take k=dl k u
 |_,0,_,_=>by simp[dl]
 |0,k+1,_,h=>by omega
 |m+1,k+1,u,h=>by rw[dl,dl,dI,YV m k (u/10) (by omega)]
def ZI(m u:Nat):(dl (m+1) u).getD m 0=UInt8.ofNat (48+u/10^m%10):=by
 rw[YU,ah,aY (by rw[wt];omega),wt,eC];rfl
def ZT{m q:Nat}(u:Nat)(h:q<m):((dl m u).getD q 0).toNat=48+u/10^q%10:=by
 have e:(dl m u).getD q 0=(dl (q+1) u).getD q 0:=by
  rw[<- YV m (q+1) u (by omega),ah,ah,cZ,aq (by omega)]
 rw[e,ZI,lA (cx _ (by omega))]
def Ca:∀(i u:Nat),(ip u).getD i 0=((u/1000000000^i%1000000000:Nat):Int)
 |i,u=>by
  by_cases a:u=0
  .subst a;rw[jP];simp
  .have b:0<u:=bq a
   rw[nU b]
   match i with
   |0=>simp
   |i+1=>
    rw[eA,Ca i (u/1000000000),eX,bM,gu]
def S6(i:Nat):(1000000000:Nat)^i=10^(9*i):=by
 rw[Nat.pow_mul]
def YR(u i k:Nat)(b:k<9):(u/1000000000^i%1000000000)/10^k%10=u/10^(9*i+k)%10:=by
 have e:(1000000000:Nat)=10^k*10^(9-k):=by
  rw[<- dm,show k+(9-k)=9 by omega]
 have a:(10:Nat)^(9-k)=10*10^(8-k):=by
  rw[show 9-k=(8-k)+1 by omega,bM,gu]
 rw[S6,dm,<- eX];generalize u/10^(9*i)=v;rw[e,Nat.mod_mul_right_div_self,a,Nat.mod_mul_right_mod]
def Dd(u:Nat):nDigits u<=9*(ip u).length\/u=0:=by
 obtain h|h:=cM u
 .exact VS h
 .left
  have:=Wu u;rw[S6]at this
  exact mJ this (by
   obtain e|e:=cM (ip u).length
   .have:=jC.1 e;omega
   .omega)
def Y1{u m:Nat}(h:nDigits u<=m):u/10^m%10=0:=by
 have:u<10^m:=by
  obtain h'|h':=dC u (10^m)
  .exact h'
  .have:=zB h';omega
 rw[eO this]
def Zq{u m:Nat}(h:nDigits u=m+1)(h0:0<u):u/10^m%10≠0/\u/10^m%10<10:=by
 refine⟨?_,cx _ (by omega)⟩
 have a:u/10^m<10:=by
  rw[cK (cy (by omega))]
  obtain h'|h':=dC u (10^(m+1))
  .rw[bM]at h';omega
  .have:=zB h';omega
 rw[cV a]
 have:10^m<=u:=by
  obtain h'|h':=dC u (10^m)
  .obtain h0|h0:=cM m
   .subst h0;rw[dT]at h';omega
   .have:=mJ h' h0;omega
  .exact h'
 have:=Nat.div_pos this (cy (n:=m) (by omega:0<10));omega
def ZC(u:Nat):dl (nDigits u) u=(decDigits u).reverse:=by
 rw[ZJ u _ (ag _),eC];simp
def De(z:Int):List UInt8:=(if z<0 then[45]else[])++decDigits z.natAbs

def K7(b:UInt8):Bool:=b==32||b==9
def Dq:List UInt8->List UInt8->List (List UInt8)
 |w,[]=>if w=[]then[]else[w]
 |w,b::l=>if K7 b then(if w=[]then Dq [] l else w::Dq [] l)else Dq (w++[b]) l
def io:List UInt8->List UInt8->List (List UInt8)
 |w,[]=>[w]
 |w,b::l=>if b==10 then w::io [] l else io (w++[b]) l
def RG(w:List UInt8):Prop:=w≠[]/\ ∀b∈w,K7 b=false/\b≠10/\b≠35
instance (w:List UInt8):Decidable (RG w):=inferInstanceAs (Decidable (w≠[]/\ ∀b∈w,K7 b=false/\b≠10/\b≠35))
def Jp(s:Bool)(zs:List Int)(q:Nat)(w:World)(v:Value)(wr:World):Prop:=
 ∃(k:Nat)(a:Option Addr)(b:Nat),v=.int .i64 k/\k<=q/\wr.ownsRow (w+2) 3 1 (.slice a k b) k ((zs.take k).map (Value.int .i64))/\
  wr.heap[w.heap.size]? =some (.cells #[false,oN] 178 (0,0))/\
  wr.heap[w.heap.size+1]? =some (.cells #[s,Z a k b] 178 (0,0))/\Below w w wr/\w.heap.size+2<=wr.heap.size
def Sp(w:World)(z:Int)(e:Ending)(w':World):Prop:=
 ∃s a n c,e=.returned (.agg #[.bool s,Z a n c])/\LG w' w' s a n c z/\Below w w w'/\kS w a n/\(n=0\/ ∃g,a=some ⟨g,0,none⟩/\vO w' g (ip z.natAbs))/\(a=none->c=0)
def EA{s:Bool}{zs:List Int}{q i:Nat}{d:Option Addr}{w wr:World}{z:Int}(o:s=decide (z<0))(m:ip z.natAbs=zs.take q)(n:q<=600)
 (c:wr.ownsRow (w+2) 3 1 (.slice d q i) q ((zs.take q).map (Value.int .i64)))(hb:Below w w wr):
 Sp w z (.returned (.agg #[s,Z d q i])) ((wr.setCell (J (w.heap.size)) (.bool s)).setCell ⟨w.heap.size,1,none⟩ (.slice d q i)):=by
 have l:=ur c
 have hf:kS (w+2) d q:=by
  rcases(mz c).2 with⟨e,h0⟩|⟨g,cap,e,k,f,a⟩
  .rw[h0];exact kS.zero _ _
  .injection e with e1 e2 e3
   rw[e1];exact kS.mk k _
 have j:∀b off,d=some ⟨b,off,none⟩->0<q->b≠w.heap.size:=fun b off e h0=>by have:=hf b off e h0;omega
 refine⟨s,d,q,i,rfl,⟨o,?_,n⟩,(hb.setCell (ag _) _).setCell (ag _) _,hf.mono (by omega),?_,?_⟩;rotate_left
 .rcases(mz c).2 with⟨e,h0⟩|⟨g,cap,e,k,f,a⟩
  .exact VR h0
  .injection e with e1 e2 e3
   refine VS ⟨g,e1,?_⟩;rw[m];exact(a.other (J (w.heap.size)) (by simp;omega) _).other ⟨w.heap.size,1,none⟩ (by simp;omega) _
 .rcases(mz c).2 with⟨e,h0⟩|⟨g,cap,e,k,f,a⟩
  .injection e with e1 e2 e3
   exact fun _=>e3
  .injection e with e1 e2 e3
   intro h;rw[h]at e1;cases e1
 rw[m];have:=(l.setCell (J (w.heap.size)) (.bool s) j).setCell ⟨w.heap.size,1,none⟩ (.slice d q i) j;simpa using this
def pY{w w':World}{r:Option Nat}(h:w.drew.grownBy w' r):w.grownBy w' r:=⟨h.1,h.2,h.3,h.4,h.5⟩
def zz{zs:List Int}{j:Nat}(h:j<zs.length):zs.take j++[zs[j]?.getD 0]=zs.take (j+1):=by
 rw[eK,ae h];rfl
def vX(s:Bool)(zs:List Int)(z:Int)(a:Option Addr)(n c:Nat)(w:World)(h:SL w w a n c zs)(hd:ms zs)(hn:n<=1000000)(hm:(ip (val zs).toNat).length<=600)(hz:z=if s then -val zs else val zs):
 Calls prog 172 #[s,Z a n c] w (Sp w z):=by
 have Hd:=O hd;have H:=O h;have b5:=h.cap;have Hz:=O hz;clear hd h hz;have L:=O H.len;go_enter func172,ntmps172;go_wp2
 go_loop [5] (fun v=>∃k:Nat,k<=n/\val (zs.take k)=val zs/\v=.int .i64 k) (fun v=>(intOf v).toNat)
 case atStart=>exact⟨n,ag _,by rw[H.len,bf],rfl⟩
 case round=>
  obtain⟨k,hk,Ht:HQ _,rfl⟩:=hrel;by_cases h0:k=0
  .subst h0
   have hv:val zs=0:=by rw[<- Ht];rfl
   have a0:z=0:=by rw[Hz,hv];cases s<;>rfl
   have R:=O a0;clear a0 hv;cases s
   all_goals
    go_wp2
    go_loopw [7] (fun v wr=>Jp false zs 0 w v wr) (fun v _=>(0:Nat)-(intOf v).toNat)
    case atStart=>
     obtain⟨F,u⟩:=iN w (.cells #[false,oN] 178) (.cells #[false,oN] 178);exact⟨0,none,0,rfl,ag _,World.ownsRow_nil _ _ _ _,F,u,((TH _ _).alloc (ag _) _).alloc (by simp) _,by simp⟩
    case round=>
     obtain⟨k,A,B,rfl,b8,g,e,m,q,o⟩:=hrel
     obtain rfl:k=0:=by omega
     have C:wr.cell? (J (w.heap.size))=some (.bool false):=by simp[World.cell?,e]
     have D:wr.cell? ⟨w.heap.size,1,none⟩=some (.slice none 0 0):=by simp[World.cell?,e]
     have b3:wr.frozen? (J (w.heap.size))=false:=by simp[World.frozen?,e]
     have b4:wr.frozen? ⟨w.heap.size,1,none⟩=false:=by simp[World.frozen?,e]
     have a1:wr.cell? (J (w+1))=some (.bool false):=by simp[World.cell?,m]
     have a2:wr.cell? ⟨w.heap.size+1,1,none⟩=some (.slice A 0 B):=by simp[World.cell?,m]
     have f:=O g;clear g e m;go_wp2_with fail;refine ar (v:=.agg #[false,Z A 0 B]) ?_ rfl ?_
     .simp[results,results172,go_sem,C,D]
     .exact EA (by rw[R];rfl) (by rw[R];simp[jP]) (by omega) f q
  .obtain⟨k,rfl⟩:∃i,k=i+1:=⟨k-1,by omega⟩
   obtain⟨hl,_,ga⟩:=H;obtain⟨b,off,rfl,S,ca⟩:=ga (by omega);have T:=((TH w w).alloc (ag _) (.cells #[false,oN] 178)).cell (p:=⟨b,off+k,none⟩) S;have g1:=T.trans (ca k (by omega));have a6:=O ca;clear ca ga h0 hl T;by_cases t:zs.getD k 0=0
   .have M:=O t
    rw[t]at g1;clear t;cases s
    all_goals
     go_wp2
     go_round
     case rel=>exact⟨k,by omega,by rw[<- AY (by have:=L.out;omega) M,Ht],by go_num⟩
     case measure=>simp[intOf]
   .have M:=O t
    have b2:(zs.getD k 0==0)=false:=by simpa using t
    clear t;generalize N:zs.getD k 0=x at g1 b2;have Hx:=O N;clear N;have y:zs.take (k+1)=ip (val zs).toNat:=CT (n:=(val zs).toNat) Hd (by have:=L.out;omega) (VS (by simpa using M.out)) (by rw[Ht,cH (jU Hd)])
    have b1:0<val zs:=by
     have h1:=jU Hd
     obtain h2|h2:=Int.lt_or_eq_of_le h1
     .exact h2
     .rw[<- h2]at y
      have:=ai List.length y;rw[bn,show(0:Int).toNat=0 from rfl,jP,cD (by have:=L.out;omega)]at this;exact absurd this (by simp)
    have X:ip z.natAbs=zs.take (k+1):=by
     rw[y,Hz];congr 1;cases s<;>simp<;>omega
    have o:s=decide (z<0):=by
     rw[Hz];cases s<;>simp<;>omega
    have a3:k+1<=600:=by
     have:=ai List.length y;rw[bn,cD (by have:=L.out;omega)]at this;omega
    have b0:=O X;have a9:=O o;clear X o b1 y;cases s
    all_goals
     go_wp2
     go_loopw [7] (fun v wr=>Jp _ zs (k+1) w v wr) (fun v _=>(k+1:Nat)-(intOf v).toNat)
     case atStart=>
      obtain⟨F,u⟩:=iN w (.cells #[false,oN] 178) (.cells #[_,oN] 178);exact⟨0,none,0,rfl,aA _,World.ownsRow_nil _ _ _ _,F,u,((TH _ _).alloc (ag _) _).alloc (by simp) _,by simp⟩
     case round=>
      obtain⟨j,A,B,rfl,hj,g,e,m,q,o⟩:=hrel
      have a2:wr.cell? ⟨w.heap.size+1,1,none⟩=some (.slice A j B):=by simp[World.cell?,m]
      have f:=O g;by_cases W:j=k+1
      .subst W
       have C:wr.cell? (J (w.heap.size))=some (.bool false):=by simp[World.cell?,e]
       have D:wr.cell? ⟨w.heap.size,1,none⟩=some (.slice none 0 0):=by simp[World.cell?,e]
       have b3:wr.frozen? (J (w.heap.size))=false:=by simp[World.frozen?,e]
       have b4:wr.frozen? ⟨w.heap.size,1,none⟩=false:=by simp[World.frozen?,e]
       first
        |have a1:wr.cell? (J (w+1))=some (.bool false):=by simp[World.cell?,m];done
        |have a1:wr.cell? (J (w+1))=some (.bool true):=by simp[World.cell?,m];done
       clear g e m;go_wp2_with fail
       first
        |(refine ar (v:=.agg #[false,Z A (k+1) B]) ?_ rfl ?_; ·(simp[results,results172,go_sem,C,D];done))
        |(refine ar (v:=.agg #[true,Z A (k+1) B]) ?_ rfl ?_; ·(simp[results,results172,go_sem,C,D];done))
       exact EA a9 b0 (by omega) f q
      .have g2:=(q.cell (p:=⟨b,off+j,none⟩) S).trans (a6 j (by omega))
       have g3:j<k+1:=by omega
       have g4:j<n:=by omega
       have a4:=O e;have a5:=O m;clear g e m W;go_wp2_with fail;refine gS 7 [(0,true),(1,true),(2,true),(3,true),(4,true),(5,true),(6,false)] (by kernel_rfl) (by kernel_rfl) ?_
       iterate 6
        refine gU (v:=?_) ?_ ?_;rotate_left
        .intro x N
         have q1:=(N.cell (p:=⟨w.heap.size+1,1,none⟩) (by show w.heap.size+1<wr.heap.size;omega)).trans a2;have q2:=(N.cell (p:=⟨b,off+j,none⟩) (by show b<wr.heap.size;have:=q.size;omega)).trans g2;go_simp;rfl
        try simp only[V]
       refine gP (fun K hK=>?_);go_simp;refine hK _ _ ((TH _ _).alloc (ag _) _) ?_;clear hK K;(try simp only[V]);refine iu rfl ?_;refine ju rfl (.tmp 34) (.tmp 39) 109 rfl underlying109 (w+2) _ _ (zs.take j) rfl (f.alloc _) _ _ 1 1 [_] rfl (SL.one wr.drew _ _) (by simp) (by omega) (by simp;omega) ?_;intro v' w1 l r;rw[zz (by have:=L.out;omega)]at l;obtain⟨P,Q,rfl⟩:=kx l;have d:(wr.alloc (.cells #[.int .i64 (zs[j]?.getD 0)] 3)).grownBy w1 (Value.slice A j B).ownBlock:=pY r;have F:=(jI (base:=w.heap.size+2) f d (b:=w.heap.size) (by omega) o).trans a4;have u:=(jI (base:=w.heap.size+2) f d (b:=w.heap.size+1) (by omega) o).trans a5;have e3:=jF q f d (by omega) o;have e4:=d.size
       have b6:w1.cell? ⟨w.heap.size+1,1,none⟩=some (.slice A j B):=by simp[World.cell?,u]
       have b7:w1.frozen? ⟨w.heap.size+1,1,none⟩=false:=by simp[World.frozen?,u]
       have a7:=O F;have a8:=O u;have E:=O l;clear F u l r d;go_wp2
       go_roundw
       case rel=>
        refine⟨j+1,P,Q,by go_num,by omega,?_,gF a7 _ (by simp) _,?_,e3.setCell (by simp) _,?_⟩
        .have:=ownsRow_setCell_below E (a:=⟨w.heap.size+1,1,none⟩) (by simp) (.slice P (j+1) Q)
         simpa using this
        .have:=gG a8 1 (.slice P (j+1) Q)
         simpa using this
        .simp at e4⊢;omega
       case measure=>simp[intOf];omega
def nl(s:Bool)(zs:List Int)(z:Int)(a:Option Addr)(n c:Nat)(w:World)(h:SL w w a n c zs)(b:ms zs)(f:n<=1000000)(d:(ip (val zs).toNat).length<=600)(g:z=if s then -val zs else val zs):
 Calls prog 172 #[s,Z a n c] w (tb w z):=
 (vX s zs z a n c w h b f d g).mono fun _ _ ⟨s,a,n,c,e,h1,h2,h3,_⟩=>⟨s,a,n,c,e,h1,h2,h3⟩
section
variable{P:Program}
def Ed:laidOutB prog=true:=by kernel_rfl
def uT{H:Type}{enc:TypeId×Value->H}{W W':World}(hb:Below W W W'):
 ∀(a:List TypeId)(e:List Value)(ds:List (DataW H))(c:List MemPlace),(∀t∈a,prog.readableRec t=true/\t<prog.types.size)->DataW.TrodAll enc prog W 0 (fun _=>true) true a e ds c->
  DataW.TrodAll enc prog W' 0 (fun b=>decide (b<W.heap.size)) true a e ds c
 |[],e,ds,c,_,h=>by
  obtain⟨rfl,rfl,rfl⟩:=trodAll_nil h;exact trodAll_mk0
 |t::a,e,ds,c,hr,h=>by
  obtain⟨v,g,d,f,p,q,rfl,rfl,rfl,h0,h1⟩:=trodAll_cons h;refine trodAll_cons_mk (Below.trod Ed (hr t (by simp)).1 (hr t (by simp)).2 h0 hb ?_) (uT hb a g f q (fun u j=>hr u (by simp[j])) h1);obtain⟨m,i⟩:=h0;exact DataW.trod_lt m _ _ _ i
def QF{a:List TypeId}(h:a.all (fun t=>P.readableRec t&&decide (t<P.types.size))=true):∀t∈a,P.readableRec t=true/\t<P.types.size:=by
 intro t b;have:=an.1 h t b;simpa using this
def Gy{t:TypeId}{k:IntKind}{W:World}{base:Nat}{v:Value}(a:P.underlying t=some (.int k))(h:Cell.okWide P W .any base t v):
 ∃n,v=.int k n/\k.has n:=by
 unfold Cell.okWide at h;rw[a]at h;unfold Cell.ok at h;rw[a]at h;cases v<;>simp_all
def Gz{t e:TypeId}{k:IntKind}{n:Nat}{W:World}{base:Nat}{v:Value}(A:P.underlying t=some (.array n e))(g:P.cellsOf t=n)
 (o:P.cellTypes P.depth t=some (List.replicate n e))(r:P.underlying e=some (.int k))(h:Value.okWide P W .any base t v):
 ∃zs:List Int,v=.agg (zs.map (Value.int k)).toArray/\zs.length=n/\ ∀z∈zs,k.has z:=by
 unfold Value.okWide at h;rw[A]at h;obtain⟨cs,rfl,q,D,c,-,m⟩:=h;rw[o]at c
 obtain rfl:List.replicate n e=D:=by simpa using c
 have key:∀l:List Value,(∀x∈l,∃z,x=.int k z/\k.has z)-> ∃zs:List Int,l=zs.map (Value.int k)/\zs.length=l.length/\ ∀z∈zs,k.has z:=by
  intro l
  induction l with
  |nil=>exact fun _=>⟨[],rfl,rfl,fun z f=>by simp at f⟩
  |cons x l C=>
   intro p;obtain⟨z,rfl,f⟩:=p x (by simp);obtain⟨zs,rfl,h2,h3⟩:=C (fun y a=>p y (by simp[a]))
   exact⟨z::zs,rfl,by simp,fun y a=>by
    simp at a
    obtain rfl|a:=a
    .exact f
    .exact h3 y a⟩
 obtain⟨zs,h1,h2,h3⟩:=key cs.toList (fun x B=>by
  obtain⟨i,hi,rfl⟩:=dJ B
  have b:i<cs.size:=by simpa using hi
  obtain⟨u,d,j⟩:=m i cs.toList[i] (by simp)
  have w:n≠0:=by
   rw[q,g]at b;exact Nat.ne_of_gt (cX (aA _) b)
  have s:i%n<n:=cx _ (bq w);rw[dr,eR,aq s]at d;simp at d;subst d
  exact Gy r j)
 refine⟨zs,?_,by rw[h2];simp[q,g],h3⟩;rw[<- h1]
end
structure gW where
 kind:Int
 r9:Int
 i4:Int
 i5:Int
 cm:Int
 a0:Int
 a1:Int
 a2:Int
 a3:Int
 p0:Int
 p1:Int
 order:Int
 tg:Int
 gA:ByteArray
 i6:Int
 i7:Int
 dx:Int
 dy:Int
 ax:Int
 ay:Int
 az:Int
 deriving DecidableEq
def IR(N:Nat)(w:World)(k:Nat)(a:Option Addr)(n c:Nat)(zs:List Int):Prop:=
 zs.length=n*k/\n<=c/\(0<n-> ∃b off,a=some ⟨b,off,none⟩/\b<N/\ ∀j,j<n*k->w.cell? ⟨b,off+j,none⟩=some (.int .i64 (zs.getD j 0)))
def IR.below{N M:Nat}{w w':World}{k:Nat}{a:Option Addr}{n c:Nat}{zs:List Int}(h:IR N w k a n c zs)(hb:Below M w w')(d:N<=M):IR N w' k a n c zs:=
 ⟨h.1,h.2.1,fun g=>let⟨b,off,e,hlt,hc⟩:=h.2.2 g;⟨b,off,e,hlt,fun j f=>(hb.cell (p:=⟨b,off+j,none⟩) (eb hlt d)).trans (hc j f)⟩⟩
def IR.mono{N M:Nat}{w:World}{k:Nat}{a:Option Addr}{n c:Nat}{zs:List Int}(h:IR N w k a n c zs)(d:N<=M):IR M w k a n c zs:=
 ⟨h.1,h.2.1,fun f=>let⟨b,off,e,hlt,hc⟩:=h.2.2 f;⟨b,off,e,eb hlt d,hc⟩⟩
def IR.go{w w':World}{k:Nat}{a:Option Addr}{n c:Nat}{zs:List Int}(h:IR w w k a n c zs)(hb:Below w w w'):IR w' w' k a n c zs:=
 (h.below hb (ag _)).mono hb.size
def IR.nil(N:Nat)(w:World)(k:Nat)(a:Option Addr)(c:Nat):IR N w k a 0 c []:=⟨by simp,aA _,fun h=>absurd h (by omega)⟩
def Y(w:World)(g:Nat)(s:gW)(a:Option Addr)(n c:Nat):Prop:=w.heap[g]? =some (.cells #[s.kind,s.r9,s.i4,s.i5,s.cm,s.a0,s.a1,s.a2,s.a3,s.p0,s.p1,s.order,s.tg,s.gA,s.i6,s.i7,s.dx,s.dy,s.ax,s.ay,s.az,Z a n c] 58 (0,0))
def Y.lt{w:World}{g:Nat}{s:gW}{a:Option Addr}{n c:Nat}(h:Y w g s a n c):g<w.heap.size:=TK h
def Y.go{w w':World}{g:Nat}{s:gW}{a:Option Addr}{n c B:Nat}(h:Y w g s a n c)(hb:Below B w w')(b:g<B):Y w' g s a n c:=(hb.block g b).trans h
def Y.new(w:World)(s:gW)(a:Option Addr)(n c:Nat):Y (w.alloc (.cells #[s.kind,s.r9,s.i4,s.i5,s.cm,s.a0,s.a1,s.a2,s.a3,s.p0,s.p1,s.order,s.tg,s.gA,s.i6,s.i7,s.dx,s.dy,s.ax,s.ay,s.az,Z a n c] 58)) w s a n c:=TL w _
def Y.cells{w:World}{g:Nat}{s:gW}{a:Option Addr}{n c:Nat}(h:Y w g s a n c):
 w.cell? (J g)=some (.int .i64 s.kind)/\w.cell? ⟨g,1,none⟩=some (.int .i64 s.r9)/\w.cell? ⟨g,2,none⟩=some (.int .i64 s.i4)/\w.cell? ⟨g,3,none⟩=some (.int .i64 s.i5)/\w.cell? ⟨g,4,none⟩=some (.int .i64 s.cm)/\
 w.cell? ⟨g,5,none⟩=some (.int .i64 s.a0)/\w.cell? ⟨g,6,none⟩=some (.int .i64 s.a1)/\w.cell? ⟨g,7,none⟩=some (.int .i64 s.a2)/\w.cell? ⟨g,8,none⟩=some (.int .i64 s.a3)/\w.cell? ⟨g,9,none⟩=some (.int .i64 s.p0)/\w.cell? ⟨g,10,none⟩=some (.int .i64 s.p1)/\
 w.cell? ⟨g,11,none⟩=some (.int .i64 s.order)/\w.cell? ⟨g,12,none⟩=some (.int .i64 s.tg)/\w.cell? ⟨g,13,none⟩=some (.string s.gA)/\w.cell? ⟨g,14,none⟩=some (.int .i64 s.i6)/\w.cell? ⟨g,15,none⟩=some (.int .i64 s.i7)/\
 w.cell? ⟨g,16,none⟩=some (.int .i64 s.dx)/\w.cell? ⟨g,17,none⟩=some (.int .i64 s.dy)/\w.cell? ⟨g,18,none⟩=some (.int .i64 s.ax)/\w.cell? ⟨g,19,none⟩=some (.int .i64 s.ay)/\w.cell? ⟨g,20,none⟩=some (.int .i64 s.az)/\w.cell? ⟨g,21,none⟩=some (.slice a n c):=by
 unfold Y at h;refine⟨?_,?_,?_,?_,?_,?_,?_,?_,?_,?_,?_,?_,?_,?_,?_,?_,?_,?_,?_,?_,?_,?_⟩ <;>simp[World.cell?,h]
def Y.free{w:World}{g:Nat}{s:gW}{a:Option Addr}{n c:Nat}(h:Y w g s a n c)(k:Nat):w.frozen? ⟨g,k,none⟩=false:=by
 unfold Y at h;simp[World.frozen?,h]
def I{w A w':World}(h1:Below w w A)(h2:Below A A w'):Below w w w':=h1.trans (h2.mono h1.size)
def gY{w A:World}{o:Obj}(h:Below w w A):Below w w (A.alloc o):=h.alloc h.size _
def jA{w A:World}(h:Below w w A):Below w w A.drew:=⟨h.os,h.tape,h.output,h.size,h.block⟩
def qo{w A:World}{p:Addr}{v:Value}(h:Below w w A)(a:w.heap.size<=p.block):Below w w (A.setCell p v):=h.setCell a _
def BB(w:World)(o p q:Obj):(((w.alloc o).alloc p).alloc q).heap[w.heap.size]? =some o/\(((w.alloc o).alloc p).alloc q).heap[w.heap.size+1]? =some p/\(((w.alloc o).alloc p).alloc q).heap[w.heap.size+2]? =some q:=by
 obtain⟨a,b⟩:=iN w o p;refine⟨?_,?_,?_⟩
 .rw[TJ _ _ _ (by simp<;>omega)];exact a
 .rw[TJ _ _ _ (by simp)];exact b
 .have:=TL ((w.alloc o).alloc p) q
  simpa using this
def wU(w:World)(o p q:Obj):Below w w (((w.alloc o).alloc p).alloc q):=gY (gY (gY (TH _ _)))
def gI{P:Program}{c:Code}{Q:Exit->Act->World->Prop}{a:Act}{w:World}(F:World->Prop)(b:F w)(h:∀w',F w'->c.wp P Q a w'):c.wp P Q a w:=h w b
def jJ{P:Program}{ops:Array Oper}{l:List Oper}{Q:Exit->Act->World->Prop}{a:Act}{w:World}(F:World->Prop)(b:F w)(h:∀w',F w'->wpList P ops Q l a w'):wpList P ops Q l a w:=h w b
def vS(w:World)(g:Nat)(s:gW)(a:Option Addr)(n c:Nat):World:=((((((((((((((((((((((w.setCell (J g) (.int .i64 s.kind)).setCell ⟨g,1,none⟩ (.int .i64 s.r9)).setCell ⟨g,2,none⟩ (.int .i64 s.i4)).setCell ⟨g,3,none⟩ (.int .i64 s.i5)).setCell ⟨g,4,none⟩ (.int .i64 s.cm)).setCell ⟨g,5,none⟩ (.int .i64 s.a0)).setCell ⟨g,6,none⟩ (.int .i64 s.a1)).setCell ⟨g,7,none⟩ (.int .i64 s.a2)).setCell ⟨g,8,none⟩ (.int .i64 s.a3)).setCell ⟨g,9,none⟩ (.int .i64 s.p0)).setCell ⟨g,10,none⟩ (.int .i64 s.p1)).setCell ⟨g,11,none⟩ (.int .i64 s.order)).setCell ⟨g,12,none⟩ (.int .i64 s.tg)).setCell ⟨g,13,none⟩ (.string s.gA)).setCell ⟨g,14,none⟩ (.int .i64 s.i6)).setCell ⟨g,15,none⟩ (.int .i64 s.i7)).setCell ⟨g,16,none⟩ (.int .i64 s.dx)).setCell ⟨g,17,none⟩ (.int .i64 s.dy)).setCell ⟨g,18,none⟩ (.int .i64 s.ax)).setCell ⟨g,19,none⟩ (.int .i64 s.ay)).setCell ⟨g,20,none⟩ (.int .i64 s.az)).setCell ⟨g,21,none⟩ (.slice a n c))
def Y.stored{w:World}{g:Nat}{cs:Array Value}(h:w.heap[g]? =some (.cells cs 58 (0,0)))(b:cs.size=22)(s:gW)(a:Option Addr)(n c:Nat):Y (vS w g s a n c) g s a n c:=by
 obtain⟨l,rfl⟩:∃l:List Value,cs=l.toArray:=⟨cs.toList,by simp⟩
 have b:l.length=22:=by simpa using b
 match l,b with
 |[x0,x1,x2,x3,x4,x5,x6,x7,x8,x9,x10,x11,x12,x13,x14,x15,x16,x17,x18,x19,x20,x21],_=>
  have k:=(gG (gG (gG (gG (gG (gG (gG (gG (gG (gG (gG (gG (gG (gG (gG (gG (gG (gG (gG (gG (gG (gG h 0 (.int .i64 s.kind)) 1 (.int .i64 s.r9)) 2 (.int .i64 s.i4)) 3 (.int .i64 s.i5)) 4 (.int .i64 s.cm)) 5 (.int .i64 s.a0)) 6 (.int .i64 s.a1)) 7 (.int .i64 s.a2)) 8 (.int .i64 s.a3)) 9 (.int .i64 s.p0)) 10 (.int .i64 s.p1)) 11 (.int .i64 s.order)) 12 (.int .i64 s.tg)) 13 (.string s.gA)) 14 (.int .i64 s.i6)) 15 (.int .i64 s.i7)) 16 (.int .i64 s.dx)) 17 (.int .i64 s.dy)) 18 (.int .i64 s.ax)) 19 (.int .i64 s.ay)) 20 (.int .i64 s.az)) 21 (.slice a n c));simp only[bK,aZ,aW]at k;exact k
def vS.other{w:World}{g d:Nat}{o:Obj}(h:w.heap[d]? =some o)(b:g≠d)(s:gW)(a:Option Addr)(n c:Nat):(vS w g s a n c).heap[d]? =some o:=by
 unfold vS;exact(gF (gF (gF (gF (gF (gF (gF (gF (gF (gF (gF (gF (gF (gF (gF (gF (gF (gF (gF (gF (gF (gF h (J g) b _) ⟨g,1,none⟩ b _) ⟨g,2,none⟩ b _) ⟨g,3,none⟩ b _) ⟨g,4,none⟩ b _) ⟨g,5,none⟩ b _) ⟨g,6,none⟩ b _) ⟨g,7,none⟩ b _) ⟨g,8,none⟩ b _) ⟨g,9,none⟩ b _) ⟨g,10,none⟩ b _) ⟨g,11,none⟩ b _) ⟨g,12,none⟩ b _) ⟨g,13,none⟩ b _) ⟨g,14,none⟩ b _) ⟨g,15,none⟩ b _) ⟨g,16,none⟩ b _) ⟨g,17,none⟩ b _) ⟨g,18,none⟩ b _) ⟨g,19,none⟩ b _) ⟨g,20,none⟩ b _) ⟨g,21,none⟩ b _)
def Below.put22{B:Nat}{w w':World}{g:Nat}(h:Below B w w')(b:B<=g)(s:gW)(a:Option Addr)(n c:Nat):Below B w (vS w' g s a n c):=by
 unfold vS;exact((((((((((((((((((((((h.setCell b _).setCell b _).setCell b _).setCell b _).setCell b _).setCell b _).setCell b _).setCell b _).setCell b _).setCell b _).setCell b _).setCell b _).setCell b _).setCell b _).setCell b _).setCell b _).setCell b _).setCell b _).setCell b _).setCell b _).setCell b _).setCell b _)
def Y.range{w:World}{g:Nat}{s:gW}{a:Option Addr}{n c:Nat}(h:Y w g s a n c):w.rangeAt g 0 [s.kind,s.r9,s.i4,s.i5,s.cm,s.a0,s.a1,s.a2,s.a3,s.p0,s.p1,s.order,s.tg,s.gA,s.i6,s.i7,s.dx,s.dy,s.ax,s.ay,s.az,Z a n c]:=by
 intro j v b;unfold Y at h;simp only[World.cell?,h,aV];simpa using b
def Tryz.infoSurf:(prog.info? 58).map (·.size)=some 22:=by kernel_rfl
def gO{ops:Array Oper}{b:List Oper}{d:Oper}{e:Act}{w:World}{Q:Exit->Act->World->Prop}{g:Nat}{s:gW}{a:Option Addr}{n c:Nat}(h:Y w g s a n c)(f:d.guard=none)(x:Operand)(j:d.op=.load 58 x)
 (k:e.eval x=.pointer (J g))(i:wpList prog ops Q b (e.put d.dst (.agg #[s.kind,s.r9,s.i4,s.i5,s.cm,s.a0,s.a1,s.a2,s.a3,s.p0,s.p1,s.order,s.tg,s.gA,s.i6,s.i7,s.dx,s.dy,s.ax,s.ay,s.az,Z a n c])) w):wpList prog ops Q (d::b) e w:=
 wpList_load_mid f 58 x j g 0 k [s.kind,s.r9,s.i4,s.i5,s.cm,s.a0,s.a1,s.a2,s.a3,s.p0,s.p1,s.order,s.tg,s.gA,s.i6,s.i7,s.dx,s.dy,s.ax,s.ay,s.az,Z a n c] _ h.range underlying58 rfl Tryz.infoSurf i
def hE{ops:Array Oper}{b:List Oper}{e:Oper}{d:Act}{w:World}{Q:Exit->Act->World->Prop}{g:Nat}{cs:Array Value}(s:gW)(a:Option Addr)(n c:Nat)(h:w.heap[g]? =some (.cells cs 58 (0,0)))(k:cs.size=22)(i:e.guard=none)(x y:Operand)(m:e.op=.store 58 x y)
 (o:d.eval x=.pointer (J g))(p:d.eval y=.agg #[s.kind,s.r9,s.i4,s.i5,s.cm,s.a0,s.a1,s.a2,s.a3,s.p0,s.p1,s.order,s.tg,s.gA,s.i6,s.i7,s.dx,s.dy,s.ax,s.ay,s.az,Z a n c])(l:wpList prog ops Q b (d.put e.dst undef) (vS w g s a n c)):wpList prog ops Q (e::b) d w:=
 wpList_store_mid i 58 x y m g 0 _ o p (fun j f=>by
  have f:j<22:=f
  simp[World.cell?,World.frozen?,h,k,f]) Tryz.infoSurf (by simp[Value.oneCell']) l
def lu{fn:Func}{p:Tmp}{tmps:Array Value}{w:World}{g:Nat}{s:gW}{a:Option Addr}{n c:Nat}(h:fn.results=#[.cell p 58])(b:tmps.getD p undef=.pointer (J g))(d:Y w g s a n c):
 (results fn tmps).run prog w=.ok (.agg #[s.kind,s.r9,s.i4,s.i5,s.cm,s.a0,s.a1,s.a2,s.a3,s.p0,s.p1,s.order,s.tg,s.gA,s.i6,s.i7,s.dx,s.dy,s.ax,s.ay,s.az,Z a n c]) w:=
 results_cell_row h tmps w g 58 _ (0,0) _ b d underlying58 rfl Tryz.infoSurf
def lY{fn:Func}{p u:Tmp}{tmps:Array Value}{w:World}{g:Nat}{s:gW}{a:Option Addr}{n c:Nat}{v:Value}(h:fn.results=#[.cell p 58,.tmp u])(b:tmps.getD p undef=.pointer (J g))(e:tmps.getD u undef=v)(d:Y w g s a n c):
 (results fn tmps).run prog w=.ok (.tuple #[.agg #[s.kind,s.r9,s.i4,s.i5,s.cm,s.a0,s.a1,s.a2,s.a3,s.p0,s.p1,s.order,s.tg,s.gA,s.i6,s.i7,s.dx,s.dy,s.ax,s.ay,s.az,Z a n c],v]) w:=by
 rw[results_cell_tmp h,b,e];simp only[asAddr,cT,bU];rw[run_loadVar_row w g 58 58 _ (0,0) _ d underlying58 rfl Tryz.infoSurf];rfl
def Pr(w:World)(x y:Value)(t:TypeId):(w.alloc (.cells #[x,y] t)).cell? (J (w.heap.size))=some x/\(w.alloc (.cells #[x,y] t)).cell? ⟨w.heap.size,1,none⟩=some y:=by
 have h:=TL w (.cells #[x,y] t);exact⟨(VV h 0).trans rfl,(VV h 1).trans rfl⟩
def pF{w f:World}{s:Bool}{a:Option Addr}{n c B:Nat}{z:Int}(h:LG f f s a n c z)(hb:Below w w f)(hf:kS B a n)(d:Nat)(i:d<B)(hw:w.heap.size<=d)(u v:Value):
 tb w z (.returned (.agg #[s,Z a n c])) ((f.setCell (J d) u).setCell ⟨d,1,none⟩ v):=by
 have g:∀b off,a=some ⟨b,off,none⟩->0<n->b≠d:=fun b off e h0=>by have:=hf b off e h0;omega
 refine⟨s,a,n,c,rfl,?_,(hb.setCell hw _).setCell hw _,hf.mono (by omega)⟩;have:=(h.setCell (J d) u g).setCell ⟨d,1,none⟩ v g;simpa using this
def gQ{w:World}{b:Nat}{x y:Value}{t:TypeId}(h:w.heap[b]? =some (.cells #[x,y] t (0,0))):
 w.cell? (J b)=some x/\w.cell? ⟨b,1,none⟩=some y/\w.frozen? (J b)=false/\w.frozen? ⟨b,1,none⟩=false:=by
 refine⟨?_,?_,?_,?_⟩ <;>simp[World.cell?,World.frozen?,h]
def QP(n:Nat)(w:World)(q d:Value)(wr:World):Prop:=
 ∃(k:Nat)(a:Option Addr)(b:Nat)(zs:List Int),q=.int .i64 (k:Int)/\d=.slice a zs.length b/\(k:Int)<=9223372036854775807/\ip n=zs++ip k/\
  wr.ownsRow (w+1) 3 1 (.slice a zs.length b) zs.length (zs.map (Value.int .i64))/\
  wr.heap[w.heap.size]? =some (.cells #[false,oN] 178 (0,0))/\Below w w wr/\w.heap.size+1<=wr.heap.size
def Ku(n:Nat)(w:World)(hn:(n:Int)<=9223372036854775807):
 Calls prog 115 #[.int .i64 (n:Int)] w (tb w n):=by
 have j:=nu n (by omega) (by omega);rw[aB]at j;have i:=O j;clear j
 have a5:¬(n:Int) <0:=by omega
 go_enter func115,ntmps115;go_wp2
 go_loopw [0,3] (fun q d wr=>QP n w q d wr) (fun q _ _=>(intOf q).toNat)
 case atStart=>exact⟨n,none,0,[],rfl,rfl,hn,by simp,World.ownsRow_nil _ _ _ _,TL _ _,(TH _ _).alloc (ag _) _,by simp⟩
 case round=>
  obtain⟨k,va,vc,zs,rfl,rfl,a9,Q,r,z,u,D⟩:=hrel;have E:=O Q;have h:=O r;have y:=O z;clear Q r z;by_cases x:k=0
  .subst x
   obtain⟨X,a0,a1,a2⟩:=gQ y
   have o:ip n=zs:=by have:=E.out;simpa[jP]using this
   have L:=O (ur h);go_wp2_with fail;refine(nl false zs n _ _ _ _ L (by rw[<- o];exact iU n) (by rw[<- o];have:=i.out;omega) (by rw[<- o,iY,aI];have:=i.out;omega) (by rw[<- o];simp[iY])).mono ?_;rintro e w1 ⟨s,a,m,c,rfl,C,l,hf⟩;have M:=(l.cell (p:=J (w.heap.size)) (by show w.heap.size<wr.heap.size;omega)).trans X;have N:=(l.cell (p:=⟨w.heap.size,1,none⟩) (by show w.heap.size<wr.heap.size;omega)).trans a0;have a7:=(l.frozen (p:=J (w.heap.size)) (by show w.heap.size<wr.heap.size;omega)).trans a1;have a8:=(l.frozen (p:=⟨w.heap.size,1,none⟩) (by show w.heap.size<wr.heap.size;omega)).trans a2;have H:=O C;have Hf:=O hf;clear C hf o;go_wp2_with fail;refine ar (v:=.agg #[s,Z a m c]) ?_ rfl ?_
   .simp[results,results115,go_sem,M,N]
   .exact pF H (u.trans (l.mono u.size)) Hf w (by omega) (ag _) _ _
  .have hb:((k:Int) !=0)=true:=by simpa using x
   have B:0<k:=by omega
   have A:=E.out
   have b0:zs.length<=3:=by have:=i.out;rw[A,al]at this;omega
   have W:ip k=[(k:Int)%1000000000]++ip ((k:Int)/1000000000).toNat:=by
    rw[nU B,show((k%1000000000:Nat):Int)=(k:Int)%1000000000 by omega,show k/1000000000=((k:Int)/1000000000).toNat by omega];rfl
   have Hx:=O W;clear W
   have a6:0<(k:Int):=by omega
   have R:((k:Int)/1000000000).toNat<k:=by omega
   have S:0<=(k:Int)/1000000000:=by omega
   have T:(k:Int)/1000000000<=9223372036854775807:=by omega
   have Hm:=O R;clear R;clear A x B;generalize hK:(k:Int)=K at*;have HK:=O hK;clear hK
   go_wp2_with(refine ju rfl (.tmp 16) (.tmp 18) 109 rfl underlying109 (w+1) _ _ zs rfl (h.alloc _) _ _ 1 1 [_] rfl (SL.one wr _ _) (by simp) (by omega) (by simp;omega) ?_)
   intro v' w1 g f;obtain⟨a3,a4,rfl⟩:=kx g;have P:=(jI (base:=w.heap.size+1) h f (b:=w.heap.size) (by omega) D).trans y;have e3:=jF u h f (by omega) D;have e4:=f.size;have F:=O P;have t:=O g;clear P g f;go_wp2
   go_roundw
   case rel=>
    refine⟨(K/1000000000).toNat,a3,a4,zs++[K%1000000000],by rw[cH S],by simp,by rw[cH S];exact T,by rw[E,Hx,aC],?_,F,e3,?_⟩
    .simpa using t.out
    .simp at e4⊢;omega
   case measure=>
    have:=Hm.out;simp[intOf];omega
def Kv(zs:List Int)(a:Option Addr)(n c i:Nat)(w:World)(h:SL w w a n c zs)(k:n<=1000000)(hi:i<=1000000):
 Calls prog 218 #[Z a n c,.int .i64 (i:Int)] w (fun e w'=>e=.returned (.int .i64 (zs.getD i 0))/\w=w'):=by
 have g:=h.len;by_cases f:i<n
 .obtain⟨b,off,rfl,hb,d⟩:=h.at (by omega)
  have j:=d i f;clear d h g;go_enter func218,ntmps218;go_wp2;go_ret;exact⟨rfl,rfl⟩
 .have e:zs.getD i 0=0:=by rw[ah,bz (by omega)];rfl
  rw[e];clear e h g;go_enter func218,ntmps218;go_wp2;go_ret;exact⟨rfl,rfl⟩
def ux(zs:List Int)(a:Option Addr)(n c i:Nat)(z:Int)(w:World)(h:SL w w a n c zs)(b:n<=1000000)(hi:i<=1000000)(d:zs.getD i 0=z):
 Calls prog 218 #[Z a n c,.int .i64 (i:Int)] w (fun e w'=>e=.returned (.int .i64 z)/\w=w'):=by
 subst d;exact Kv zs a n c i w h b hi
structure jt where
 (s:gW) (a:Option Addr) (n c:Nat)
instance {s:gW} {a:Option Addr} {n c:Nat}:CoeDep jt ⟨s,a,n,c⟩ (Array Value):=⟨#[.int .i64 s.kind,.int .i64 s.r9,.int .i64 s.i4,.int .i64 s.i5,.int .i64 s.cm,.int .i64 s.a0,.int .i64 s.a1,.int .i64 s.a2,.int .i64 s.a3,.int .i64 s.p0,.int .i64 s.p1,.int .i64 s.order,.int .i64 s.tg,.string s.gA,.int .i64 s.i6,.int .i64 s.i7,.int .i64 s.dx,.int .i64 s.dy,.int .i64 s.ax,.int .i64 s.ay,.int .i64 s.az,.slice a n c]⟩
def SC(K:Act->World->Prop)(Q:Exit->Act->World->Prop):Exit->Act->World->Prop
 | .normal=>K
 |e=>Q e
section
variable{P:Program}{ops:Array Oper}{Q:Exit->Act->World->Prop}{md:Region.Mode}{B:Nat}
def Nr(o:Oper)(a:Act)(K:Act->World->Prop)(r:Result Next)(h:o.upon P a K (SC K Q) r):o.upon P a K Q r:=by
 match r with
 | .ok (.value v) w'=>exact h
 | .ok .skip w'=>exact h
 | .ok (.defer d) w'=>exact h
 | .ok (.enter f args) w'=>exact Calls.mono (by exact h) (fun e w' b=>by cases e<;>exact b)
 | .ok (.row row args) w'=>exact h
 | .halt (.panic v) w'=>exact h
def vw{o:Oper}{a:Act}{w:World}{K:Act->World->Prop}(b:o.guard=none)(h:wpList P ops (SC K Q) [o] a w):o.wp P a w K Q\/(o.asks P a w/\LetsOut Q):=by
 have hw:Region.wanted o (yielded ops a.tmps)=true:=by simp[Region.wanted,b]
 unfold wpList at h;rw[aq hw]at h
 obtain h|h:=h
 .exact VR (Nr o a K _ h)
 .exact VS h
def mm{n fuel i:Nat}{o:Oper}{b:Array Bool}{a:Act}{w:World}(h:∀K:Act->World->Prop,(∀a' w',Below B w w'->Pb (Below B) P md ops Q n fuel (b.setIfInBounds i true) a' w'->K a' w')->wpList P ops (SC K Q) [o] a w)(d:Region.ready md ops b=[i]:=by kernel_rfl)(hi:ops.toList[i]? =some o:=by rfl)(hg:o.guard=none:=by rfl):Pb (Below B) P md ops Q n (fuel+1) b a w:=by
 have hw:Region.wanted o (yielded ops a.tmps)=true:=by simp[Region.wanted,hg]
 rw[bc]at hi;refine⟨fun h0=>(by rw[d]at h0;cases h0),fun j c=>?_⟩;rw[d]at c
 obtain rfl:j=i:=by simpa using c
 unfold wpOp;simp only[hi,hw,bX];exact vw hg (h _ fun a' w' h1 h2=>⟨fun _=>h1,h2⟩)
def Fb{n fuel i j:Nat}{o c:Oper}{b:Array Bool}{a:Act}{w:World}(l:Region.ready md ops b=[i,j])(hi:ops.toList[i]? =some o)(g:ops.toList[j]? =some c)(f:o.guard=none)(d:c.guard=none)
 (h:∀K:Act->World->Prop,(∀a' w',Below B w w'->Pb (Below B) P md ops Q n fuel (b.setIfInBounds i true) a' w'->K a' w')->wpList P ops (SC K Q) [o] a w)
 (p:∀K:Act->World->Prop,(∀a' w',Below B w w'->Pb (Below B) P md ops Q n fuel (b.setIfInBounds j true) a' w'->K a' w')->wpList P ops (SC K Q) [c] a w):Pb (Below B) P md ops Q n (fuel+1) b a w:=by
 have hw:Region.wanted o (yielded ops a.tmps)=true:=by simp[Region.wanted,f]
 have m:Region.wanted c (yielded ops a.tmps)=true:=by simp[Region.wanted,d]
 rw[bc]at hi g;refine⟨fun h0=>(by rw[l]at h0;cases h0),fun k e=>?_⟩;rw[l]at e;simp only[aS,bi,cR]at e
 obtain rfl|rfl:=e
 .unfold wpOp
  simp only[hi,hw,bX];exact vw f (h _ fun a' w' h1 h2=>⟨fun _=>h1,h2⟩)
 .unfold wpOp
  simp only[g,m,bX];exact vw d (p _ fun a' w' h1 h2=>⟨fun _=>h1,h2⟩)
def qG{b:List Oper}{o:Oper}{a:Act}{w:World}(e:o.guard=none)(v:Value)(d:Obj)(c:(execOp a.eval o).run P w=.ok (.value v) (w.alloc d))(h:wpList P ops Q b (a.put o.dst v) (w.alloc d)):wpList P ops Q (o::b) a w:=by
 have hw:Region.wanted o (yielded ops a.tmps)=true:=by simp[Region.wanted,e]
 unfold wpList;rw[aq hw];refine VR ?_;unfold Oper.wp;rw[c];exact h
end
def MU(a b:Option Addr)(n m c d:Nat)(w:World)(e:n≠m):
 Calls prog 188 #[Z a n c,Z b m d] w (QE w (.bool (decide ((n:Int)-m<0)))):=by
 have h1:((n:Int) !=m)=true:=by simp;omega
 clear e;go_enter func188,ntmps188;go_wp2;go_ret;refine⟨?_,0,rfl⟩
 show Ending.returned (.bool (decide (n<m)))=_
 have h2:decide (n<m)=decide ((n:Int)-m<0):=by rw[dj];omega
 rw[h2]
def Kw(xs ys:List Int)(a b:Option Addr)(n c d:Nat)(w:World)(t:SL w w a n c xs)(hb:SL w w b n d ys)(Q:n<=1000000000)(u:ms xs)(z:ms ys):
 Calls prog 188 #[Z a n c,Z b n d] w (QE w (.bool (decide (qS xs ys n<0)))):=by
 have A:=O t;have B:=O hb;clear t hb;have C:=O u;have D:=O z;clear u z;generalize hR:decide (qS xs ys n<0)=R;have l:=O hR;clear hR;go_enter func188,ntmps188;go_wp2
 go_loopw [5] (fun v wr=>∃k j:Nat,k<=n/\v=.int .i64 ((k:Int)-1)/\qS xs ys n=qS xs ys k/\wr=w.drewN j) (fun v _=>(intOf v+1).toNat)
 case atStart=>exact⟨n,0,ag _,by go_num,rfl,rfl⟩
 case round=>
  obtain⟨k,j,P,rfl,h:HQ _,rfl⟩:=hrel;by_cases h0:k=0
  .subst h0
   have s:R=false:=by rw[<- l,h];rfl
   subst s;go_wp2;go_ret;exact⟨rfl,_,rfl⟩
  .obtain⟨k,rfl⟩:∃i,k=i+1:=⟨k-1,by omega⟩
   obtain⟨_,_,q⟩:=A;obtain⟨H,S,rfl,_,o⟩:=q (by omega);obtain⟨_,_,r⟩:=B;obtain⟨K,T,rfl,_,p⟩:=r (by omega);have L:=o k (by omega);have M:=p k (by omega)
   have g2:(((k+1:Nat):Int)-1)=(k:Int):=by omega
   rw[g2]
   have N:(k:Int) <n:=by omega
   have E:=C.all k;have F:=D.all k;clear g2 o p q r h0;generalize hxx:xs.getD k 0=x at*;generalize hyy:ys.getD k 0=y at*;have f:=O hxx;have g:=O hyy;clear hxx hyy;go_wp2
   go_quiet (fail)
   go_wp2
   .go_quiet (fail)
    go_wp2;go_ret
    have e:(x !=y)=true:=by assumption
    refine⟨?_,by simp only[World.drewN_drewN];exact⟨_,rfl⟩⟩
    show Ending.returned (.bool (decide (x<y)))=_
    rw[<- l,h];simp only[qS,f.out,g.out];rw[aj (by simpa using e)];congr 2;rw[dj];omega
   .have e:(x !=y)=false:=by assumption
    have m:=O (show x=y by simpa using e);clear e
    go_roundw
    case rel=>
     refine⟨k,_,by omega,rfl,?_,rfl⟩;rw[h];simp only[qS,f.out,g.out];rw[aq m.out]
    case measure=>simp[intOf]
def tP(x y:Nat)(a b:Option Addr)(n m c d:Nat)(w:World)(f:SL w w a n c (ip x))(hb:SL w w b m d (ip y))(g:n<=1000000000):
 Calls prog 188 #[Z a n c,Z b m d] w (QE w (.bool (decide (x<y)))):=by
 have e:decide (x<y)=decide (JY (ip x) (ip y) <0):=by rw[dj];exact JZ.2.symm
 rw[e];by_cases h:n=m
 .subst h
  have:=Kw _ _ a b n c d w f hb g (iU x) (iU y);unfold JY;rw[aq (by rw[<- f.len,<- hb.len]),<- f.len];exact this
 .have:=MU a b n m c d w h
  unfold JY;rw[aj (by rw[<- f.len,<- hb.len];exact h),<- f.len,<- hb.len];exact this
def rN(s:Bool)(z:Int)(a:Option Addr)(n c:Nat)(w:World)(h:LG w w s a n c z):
 Calls prog 137 #[.agg #[s,Z a n c]] w (iZ w (.bool true)):=by
 have f:=h.2.1;have C:=O (h.1);have Q:=h.2.2;have B:=O (iU z.natAbs);have D:=O (My z.natAbs);have q:=O (f.len);generalize hzs:ip z.natAbs=zs at*;have H:=O f;have r:=O hzs;clear f h hzs;have R:=Pr w (.bool s) (.slice a n c) 178;by_cases h0:n=0
 .have t:s=false:=by
   rw[C];have:=jC.1 (by rw[r,<- q];exact h0);simp;omega
  subst h0 t;go_enter func137,ntmps137;go_wp2;go_ret;exact⟨rfl,(TH _ _).alloc (ag _) _⟩
 .obtain⟨b,off,rfl,hb,l⟩:=H.at (by omega)
  have i:0<n:=by omega
  have d:zs.getD (n-1) 0≠0:=by have:=D.out;have e:=q.out;rw[e]at i⊢;exact this i
  have m:∀j,(w.alloc (.cells #[s,Z (some ⟨b,off,none⟩) n c] 178)).cell? ⟨b,off+j,none⟩=w.cell? ⟨b,off+j,none⟩:=fun j=>((TH w w).alloc (ag _) _).cell (p:=⟨b,off+j,none⟩) hb
  have g:=(m (n-1)).trans (l (n-1) (by omega))
  have g2:((n:Int)-1).toNat=n-1:=by omega
  have K:(zs.getD (n-1) 0==0)=false:=by simpa using d
  have N:(zs.getD (n-1) 0 !=0)=true:=by simpa using d
  have L:((n:Int)==0)=false:=by simp;omega
  have M:n-1<n:=by omega
  have o:=O l;have u:=O m;clear l h0 d m;generalize hxx:zs.getD (n-1) 0=x at*;have E:=O hxx;clear hxx;have A:=O g;clear g;go_enter func137,ntmps137;go_wp2
  go_loop [3] (fun v=>∃k:Nat,k<=n/\v=.int .i64 k) (fun v=>n-(intOf v).toNat)
  case atStart=>exact⟨0,aA _,rfl⟩
  case round=>
   obtain⟨k,P,rfl⟩:=hrel;by_cases F:k<n
   .have g:=(u k).trans (o k (by omega))
    have g2:=B.all k;generalize zs.getD k 0=y at*;go_wp2
    go_round
    case rel=>exact⟨k+1,by omega,by go_num⟩
    case measure=>simp[intOf];omega
   .have g:=A.out
    go_wp2;go_ret;exact⟨rfl,(TH _ _).alloc (ag _) _⟩
def mx(N M:Nat)(a:Option Addr)(n:Nat):Prop:=∀b off,a=some ⟨b,off,none⟩->0<n->b<N\/M<=b
def mx.ofFresh{N M:Nat}{a:Option Addr}{n:Nat}(h:kS M a n):mx N M a n:=fun b off e h0=>VS (h b off e h0)
def mx.ofLG{N M:Nat}{w:World}{s:Bool}{a:Option Addr}{n c:Nat}{z:Int}(h:LG N w s a n c z):mx N M a n:=fun b off e h0=>by
 obtain⟨b',f,d,hb,_⟩:=h.2.1.at h0;rw[e]at d;cases d;exact VR hb
def Sq(N:Nat)(w:World)(z:Int)(e:Ending)(w':World):Prop:=
 ∃s a n c,e=.returned (.agg #[.bool s,Z a n c])/\LG w' w' s a n c z/\Below w w w'/\mx N w a n
def mI{f:World}{s:Bool}{a:Option Addr}{n c N M d:Nat}{z:Int}(i:LG f f s a n c z)(j:mx N M a n)(h1:N<=d)(h2:d<M)(u v:Value):
 LG ((f.setCell (J d) u).setCell ⟨d,1,none⟩ v).heap.size ((f.setCell (J d) u).setCell ⟨d,1,none⟩ v) s a n c z:=by
 have g:∀b off,a=some ⟨b,off,none⟩->0<n->b≠d:=fun b off e h0=>by obtain h|h:=j b off e h0<;>omega
 have:=(i.setCell (J d) u g).setCell ⟨d,1,none⟩ v g;simpa using this
def jr(b a:Int)(zs:List Int):Bool:=zs.any fun z=>decide (z<b)||decide (a<z)
def Ee{f:Int->Bool}{zs:List Int}{k:Nat}(h:k<zs.length)(h0:(zs.take k).any f=false):(zs.take (k+1)).any f=f (zs.getD k 0):=by
 rw[dV h,eo,h0];simp[ah,h]
def xH(b a z:Int)(d c:Nat)(w:World)(f:w.cell? (J d)=some (.int .i64 b))(e:w.cell? (J c)=some (.int .i64 a)):
 Calls prog 190 #[z,U d,U c] w (iZ w (.bool (decide (z<b)||decide (a<z)))):=by
 by_cases h1:z<b
 .go_enter func190,ntmps190
  go_wp2;go_ret;exact⟨by simp[h1],TH _ _⟩
 .by_cases h2:a<z
  all_goals
   go_enter func190,ntmps190;go_wp2;go_ret;exact⟨by simp[h1,h2],TH _ _⟩
def Jl(w:World)(b:Bool)(e:Ending)(w':World):Prop:=∃r:Int,e=.returned (.int .i64 r)/\decide (0<=r)=b/\Below w w w'
def AZ(f d:Int)(zs:List Int)(a:Option Addr)(n c l j:Nat)(w:World)(s:SL w w a n c zs)(R:n<=1000000)(E:w.cell? (J l)=some (.int .i64 f))(D:w.cell? (J j)=some (.int .i64 d))(N:l<w.heap.size)(lh:j<w.heap.size):
 Calls prog 220 #[Z a n c,.func (.func 190) #[] #[U l,U j]] w (Jl w (jr f d zs)):=by
 have h:=O (s.len);have L:=O s;have K:=O E;have H:=O D;clear s E D;go_enter func220,ntmps220;go_wp2
 go_loopw [8] (fun t wr=>∃k:Nat,k<=n/\t=.int .i64 (k:Int)/\jr f d (zs.take k)=false/\Below w w wr) (fun t _=>n-(intOf t).toNat)
 case atStart=>exact⟨0,aA _,rfl,rfl,TH _ _⟩
 case round=>
  obtain⟨k,Q,rfl,B:HQ _,Hb:HQ _⟩:=hrel;by_cases r:k<n
  .obtain⟨b,off,rfl,hlt,C⟩:=(L.go Hb).at (by omega)
   have c0:=C k r;clear C;have g:=Ee (k:=k) (by rw[<- h];exact r) B;generalize zs.getD k 0=z at*;have u:=O ((Hb.cell (p:=J l) N).trans K);have v:=O ((Hb.cell (p:=J j) lh).trans H);have A:=O g;clear g
   by_cases m:(decide (z<f)||decide (d<z))=true
   .have o:=O m;clear m
    go_wp2_with fail;refine(xH f d z l j _ u v).mono ?_;rintro e P ⟨q,i⟩;rw[o]at q;subst q;go_wp2;go_ret;refine⟨(k:Int),rfl,?_,Hb.trans (i.mono Hb.size)⟩;rw[aP (by omega)];have h1:=A.out;rw[o]at h1
    symm
    unfold jr;obtain⟨x,M,F⟩:=cw.1 h1;exact cw.2 ⟨x,List.mem_of_mem_take M,F⟩
   .have m:(decide (z<f)||decide (d<z))=false:=by simpa using m
    have o:=O m;clear m;go_wp2_with fail;refine(xH f d z l j _ u v).mono ?_;rintro e P ⟨q,i⟩;rw[o]at q;subst q;have y:=O (Hb.trans (i.mono Hb.size));clear i;go_wp2
    go_roundw
    case rel=>exact⟨k+1,by omega,by go_num,A.trans o,y⟩
    case measure=>simp[intOf];omega
  .obtain rfl:k=n:=by omega
   go_wp2;go_ret;refine⟨-1,rfl,?_,Hb⟩;have h1:=B.out;rw[h,bf]at h1;rw[h1];rfl
def Xe(f b:Int)(zs:List Int)(a:Option Addr)(n c h g:Nat)(w:World)(p:SL w w a n c zs)(o:n<=1000000)(k:w.cell? (J h)=some (.int .i64 f))(j:w.cell? (J g)=some (.int .i64 b))(q:h<w.heap.size)(lh:g<w.heap.size):
 Calls prog 189 #[Z a n c,.func (.func 190) #[] #[U h,U g]] w (iZ w (.bool (jr f b zs))):=by
 have m:=O k;have l:=O j;clear k j;go_enter func189,ntmps189;go_wp2_with fail;refine(AZ f b zs a n c h g _ p o m l q lh).mono ?_;rintro e s ⟨r,rfl,d,hb⟩;by_cases h0:0<=r
 .rw[aP h0]at d
  have i:=O d;clear d;go_wp2;go_ret;exact⟨by rw[<- i];rfl,hb⟩
 .rw[aw h0]at d
  have i:=O d;clear d;have h1:decide (0<=r)=false:=aw h0;go_wp2;go_ret;exact⟨by rw[<- i];rfl,hb⟩
def pz(f d:Int)(zs:List Int)(a:Option Addr)(n c:Nat)(w:World)(j:SL w w a n c zs)(i:n<=1000000):
 Calls prog 141 #[f,d,Z a n c] w (iZ w (.bool (!jr f d zs))):=by
 obtain⟨h:HQ _,E2:HQ _⟩:=iN w (.cells #[f] 3) (.cells #[d] 3);have g:=O (iH (w:=w) (.cells #[f] 3) (.cells #[d] 3));go_enter func141,ntmps141;go_wp2_with fail;refine(Xe f d zs a n c w (w+1) _ (j.go g) i ((VV h 0).trans rfl) ((VV E2 0).trans rfl) (by simp<;>omega) (by simp)).mono ?_;rintro e k ⟨rfl,hb⟩;generalize jr f d zs=b at*;go_wp2;go_ret;exact⟨rfl,g.trans (hb.mono g.size)⟩
def qh(d:Int)(zs:List Int)(a:Option Addr)(n c:Nat)(w:World)(g:SL w w a n c zs)(f:n<=1000000)(h0:0<=d)(h1:d<=9223372036854775807):
 Calls prog 145 #[d,Z a n c] w (iZ w (.bool (!jr (-d) d zs))):=by
 go_enter func145,ntmps145;go_wp2_with fail;refine(pz (-d) d zs a n c _ g f).mono ?_;rintro e h ⟨rfl,hb⟩;generalize(!jr (-d) d zs)=b at*;go_wp2;go_ret;exact⟨rfl,hb⟩
def QG{w:World}{cs:Array Value}{xs:List Int}(h:cs=(xs.map (Value.int .i64)).toArray):SL (w.alloc (.cells cs 3)).heap.size (w.alloc (.cells cs 3)) (J (w.heap.size)) xs.length xs.length xs:=by
 subst h;refine vO.sl ⟨[],?_⟩ (ag _);rw[TL,bG]
def Jm{w:World}{cs:Array Value}{xs:List Int}{b m:Nat}(hb:b=w.heap.size)(a:m=xs.length)(h:cs=(xs.map (Value.int .i64)).toArray):SL (w.alloc (.cells cs 3)).heap.size (w.alloc (.cells cs 3)) (J b) m m xs:=by
 subst hb a;exact QG h
def oH(i p q:Int):Bool:=!jr 10000000 40000000 [i]&& !jr 0 1000 [p]&& !jr 1 1000 [q]
def SY{w:World}{b:Nat}{x:Int}(hb:b=w.heap.size):SL (w.alloc (.cells #[x] 3)).heap.size (w.alloc (.cells #[x] 3)) (J b) 1 1 [x]:=Jm hb rfl rfl
def Tw{w:World}{b:Nat}{a x1:Int}(hb:b=w.heap.size):SL (w.alloc (.cells #[a,x1] 3)).heap.size (w.alloc (.cells #[a,x1] 3)) (J b) 2 2 [a,x1]:=Jm hb rfl rfl
def TE{w:World}{b:Nat}{a x1 x2:Int}(hb:b=w.heap.size):SL (w.alloc (.cells #[a,x1,x2] 3)).heap.size (w.alloc (.cells #[a,x1,x2] 3)) (J b) 3 3 [a,x1,x2]:=Jm hb rfl rfl
def TF{w:World}{b:Nat}{a x1 x2 c d:Int}(hb:b=w.heap.size):SL (w.alloc (.cells #[a,x1,x2,c,d] 3)).heap.size (w.alloc (.cells #[a,x1,x2,c,d] 3)) (J b) 5 5 [a,x1,x2,c,d]:=Jm hb rfl rfl
def Eg(i p q:Int)(w:World):Calls prog 151 #[.agg #[i,p,q]] w (iZ w (.bool (oH i p q))):=by
 go_enter func151,ntmps151
 go_wp2_with((with_reducible refine(pz _ _ _ _ _ _ _ (SY (by simp)) (by omega)).mono ?_);rintro e a ⟨rfl,hb⟩;obtain⟨b,hf⟩:=rp hb;(have c:w.heap.size<a.heap.size:=by(have:=hb.size;(try simp at this);omega)))
 all_goals
  go_ret;refine⟨?_,by(repeat (first|exact TH _ _|apply gY|apply jA|exact below_chain1 (by assumption)|(refine I ?_ (by assumption))|(refine qo ?_ ?_)))⟩;simp[oH, *]
def BX{w:World}{x1 y1 x2 y2:Value}{t:TypeId}{a:World}(hb:Below ((w.alloc (.cells #[x1,y1] t)).alloc (.cells #[x2,y2] t)).heap.size ((w.alloc (.cells #[x1,y1] t)).alloc (.cells #[x2,y2] t)) a):
 a.cell? (J (w.heap.size))=some x1/\a.cell? ⟨w.heap.size,1,none⟩=some y1/\a.cell? (J (w+1))=some x2/\a.cell? ⟨w.heap.size+1,1,none⟩=some y2/\w.heap.size+2<=a.heap.size/\Below w w a:=by
 obtain⟨b,c⟩:=iN w (.cells #[x1,y1] t) (.cells #[x2,y2] t);obtain⟨a1,a2,_,_⟩:=gQ b;obtain⟨b1,b2,_,_⟩:=gQ c;have d:=hb.size;simp at d;refine⟨(hb.cell (p:=J (w.heap.size)) (by simp;omega)).trans a1,(hb.cell (p:=⟨w.heap.size,1,none⟩) (by simp;omega)).trans a2,(hb.cell (p:=J (w+1)) (by simp)).trans b1,(hb.cell (p:=⟨w.heap.size+1,1,none⟩) (by simp)).trans b2,by omega,mA (mA hb)⟩
def Kx(s t:Bool)(a b:Option Addr)(n m c d:Nat)(w:World)(e:s≠t\/n≠m):
 Calls prog 181 #[.agg #[s,Z a n c],.agg #[t,Z b m d]] w (iZ w (.bool false)):=by
 have g:=O (iH (w:=w) (.cells #[s,Z a n c] 178) (.cells #[t,Z b m d] 178));by_cases f:s=t
 .subst f
  have i:n≠m:=e.resolve_left (fun h=>h rfl)
  have h1:((n:Int) !=m)=true:=by simp;omega
  clear e i;cases s
  all_goals
   go_enter func181,ntmps181;go_wp2;go_ret;exact⟨rfl,g⟩
 .clear e
  cases s
  all_goals cases t
  all_goals first
   |exact absurd rfl f
   |(clear f
     go_enter func181,ntmps181;go_wp2;go_ret
     exact⟨rfl,g⟩)
def MV(s:Bool)(xs ys:List Int)(a b:Option Addr)(n c d:Nat)(w:World)(F:SL w w a n c xs)(hb:SL w w b n d ys)(hn:n<=1000)(L:ms xs)(M:ms ys):
 Calls prog 181 #[.agg #[s,Z a n c],.agg #[s,Z b n d]] w (iZ w (.bool (decide (xs=ys)))):=by
 generalize hR:decide (xs=ys)=R;have q:=O hR;clear hR;have o:=O F;have r:=O hb;clear F hb;have N:=O L;have P:=O M;clear L M;go_enter func181,ntmps181;go_wp2;have T:=BX (TH _ _) (w:=w) (x1:=.bool s) (y1:=.slice a n c) (x2:=.bool s) (y2:=.slice b n d) (t:=178);obtain⟨q1,q2,q3,q4,q5,f:HQ _⟩:=T;generalize hW:(w.alloc (.cells #[s,Z a n c] 178)).alloc (.cells #[s,Z b n d] 178)=W0 at*;clear hW
 go_loopw [5] (fun v wr=>∃k j:Nat,k<=n/\v=.int .i64 (k:Int)/\(∀i,i<k->xs.getD i 0=ys.getD i 0)/\wr=W0.drewN j) (fun v _=>n-(intOf v).toNat)
 case atStart=>exact⟨0,0,aA _,rfl,fun i hi=>absurd hi (by omega),rfl⟩
 case round=>
  obtain⟨k,j,hk,rfl,z:HQ _,rfl⟩:=hrel;by_cases h0:k=n
  .subst h0
   have E:R=true:=by
    rw[<- q,aD]
    refine List.ext_getElem (by rw[<- o.len,<- r.len]) fun i h1 h2=>?_
    have:=z i (by rw[o.len];exact h1);simpa[ah,ae h1,ae h2]using this
   subst E;go_wp2;go_ret;exact⟨rfl,gV f _⟩
  .have m:k<n:=by omega
   obtain⟨_,_,C⟩:=o;obtain⟨Q,W,rfl,H,A⟩:=C (by omega);obtain⟨_,_,D⟩:=r;obtain⟨S,X,rfl,K,B⟩:=D (by omega);have g1:=(f.cell (p:=⟨Q,W+k,none⟩) H).trans (A k m);have g3:=(f.cell (p:=⟨S,X+k,none⟩) K).trans (B k m);have a0:=N.all k;have a1:=P.all k;clear A B C D h0;generalize hxx:xs.getD k 0=x at*;generalize hyy:ys.getD k 0=y at*;have h:=O hxx;have l:=O hyy;clear hxx hyy;go_wp2
   go_quiet (fail)
   go_wp2
   .go_ret
    have g:(x !=y)=true:=by assumption
    refine⟨?_,by simp only[World.drewN_drewN];exact gV f _⟩
    show Ending.returned (.bool false)=_
    rw[<- q,aw];intro e;have:=h.out;rw[e,l]at this;simp[this]at g
   .have g:(x !=y)=false:=by assumption
    have u:=O (show x=y by simpa using g);clear g
    go_roundw
    case rel=>
     refine⟨k+1,_,by omega,by go_num,fun i hi=>?_,rfl⟩;by_cases e:i=k
     .subst e;rw[h,l,u]
     .exact z i (by omega)
    case measure=>simp[intOf];omega
def MW{m n:Nat}:ip m=ip n↔m=n:=by
 constructor
 .intro h
  have:=ai val h;rw[iY,iY]at this;omega
 .rintro rfl;rfl
def EB(s t:Bool)(x y:Int)(a b:Option Addr)(n m c d:Nat)(w:World)(f:LG w w s a n c x)(hb:LG w w t b m d y):
 Calls prog 181 #[.agg #[s,Z a n c],.agg #[t,Z b m d]] w (iZ w (.bool (decide (x=y)))):=by
 by_cases h:s≠t\/n≠m
 .have e:decide (x=y)=false:=by
   rw[aw];rintro rfl
   obtain h|h:=h
   .exact h (by rw[f.1,hb.1])
   .exact h (by rw[f.2.1.len,hb.2.1.len])
  rw[e];exact Kx s t a b n m c d w h
 .have h1:s=t:=bg fun g=>h (VR g)
  have h2:n=m:=bg fun g=>h (VS g)
  subst h1 h2
  have e:decide (x=y)=decide (ip x.natAbs=ip y.natAbs):=by
   rw[dj,MW];have i:=f.1;have j:=hb.1;rw[i,dj]at j;omega
  rw[e];exact MV s _ _ a b n c d w f.2.1 hb.2.1 (by have:=f.2.2;omega) (iU _) (iU _)
def uy(s t:Bool)(x y:Int)(a b:Option Addr)(n m c d:Nat)(w:World)(T:LG w w s a n c x)(hb:LG w w t b m d y):
 Calls prog 139 #[.agg #[s,Z a n c],.agg #[t,Z b m d]] w (iZ w (.int .i64 (oG x y))):=by
 generalize hR:oG x y=R;have z:=O hR;clear hR;have D:=O (iH (w:=w) (.cells #[s,Z a n c] 178) (.cells #[t,Z b m d] 178));have A:=O T;have F:=O hb;clear T hb;have H:=O (A.1);have P:=O (F.1);go_enter func139,ntmps139;go_wp2_with fail;refine(EB s t x y a b n m c d _ (A.go D) (F.go D)).mono ?_;rintro e X ⟨rfl,E⟩;obtain⟨q1,q2,q3,q4,q5,i⟩:=BX E;clear E
 have k:w.heap.size<X.heap.size:=by omega
 have l:w.heap.size+1<X.heap.size:=by omega
 by_cases g:x=y
 .have S:R=0:=by rw[<- z];unfold oG;subst g;simp
  have r:decide (x=y)=true:=by simpa using g
  subst S;clear g;rw[r];clear r;go_wp2;go_ret;exact⟨rfl,i⟩
 .have r:decide (x=y)=false:=by simpa using g
  rw[r];clear r;by_cases o:s=t
  .subst o
   have j:R=if(decide (x.natAbs<y.natAbs) !=s)=true then -1 else 1:=by
    rw[<- z,H];have h1:=H.out;rw[P,dj]at h1;unfold oG;by_cases B:x<0
    .have h2:y<0:=h1.2 B
     simp[B];by_cases h3:x<y
     .rw[aq h3,aq (by omega)]
     .rw[aj h3,aq (by omega),aj (by omega)]
    .have h2:¬y<0:=fun h=>B (h1.1 h)
     simp[B];by_cases h3:x<y
     .rw[aq h3,aq (by omega)]
     .rw[aj h3,aq (by omega),aj (by omega)]
   have C:=O j;clear j g;have M:=O ((A.go i).2.1);have N:=O ((F.go i).2.1);go_wp2_with fail;refine gS 8 [(0,true),(1,true),(2,true),(3,true),(5,true),(6,true),(4,false),(7,true)] (by kernel_rfl) (by kernel_rfl) ?_
   iterate 6
    refine gU (v:=?_) ?_ ?_;rotate_left
    .intro x f
     have z1:=(f.cell (p:=J (w.heap.size)) k).trans q1;have z2:=(f.cell (p:=⟨w.heap.size,1,none⟩) k).trans q2;have z3:=(f.cell (p:=J (w+1)) l).trans q3;have z4:=(f.cell (p:=⟨w.heap.size+1,1,none⟩) l).trans q4;go_simp;rfl
    try simp only[V]
   refine gP (fun K Q=>?_);go_simp;refine(tP x.natAbs y.natAbs a b n m c d _ (by exact M) (by exact N) (by have:=A.2.2;omega)).mono ?_;rintro e w4 ⟨rfl,nk,rfl⟩;refine Q _ _ (gV (TH _ _) _) ?_;clear Q K;(try simp only[V]);generalize hL:decide (x.natAbs<y.natAbs)=L at*;have Hl:=O hL;clear hL;by_cases hb:(L !=s)=true
   .have q:=O (show R= -1 by rw[C,aq hb])
    have W:(L==s)=false:=by simpa[bne]using hb
    refine gU (v:=?_) ?_ ?_;rotate_left
    .intro x f
     go_simp;rfl
    (try simp only[V]);refine iu rfl ?_;go_wp2;go_ret;exact⟨by rw[q];rfl,gV i _⟩
   .have q:=O (show R=1 by rw[C,aj hb])
    have hb:(L !=s)=false:=by simpa using hb
    have W:(L==s)=true:=by simpa[bne]using hb
    refine gU (v:=?_) ?_ ?_;rotate_left
    .intro x f
     go_simp;rfl
    (try simp only[V]);refine iu rfl ?_;go_wp2;go_ret;exact⟨by rw[q];rfl,gV i _⟩
  .have j:(s=true/\t=false/\R= -1)\/(s=false/\t=true/\R=1):=by
    rw[<- z];have h1:=H.out;have h2:=P.out;unfold oG;by_cases f:x<0
    .by_cases u:y<0
     .rw[aP f]at h1;rw[aP u]at h2;exact absurd (h1.trans h2.symm) o
     .rw[aP f]at h1;rw[aw u]at h2
      exact VR ⟨h1,h2,aq (by omega)⟩
    .by_cases u:y<0
     .rw[aw f]at h1;rw[aP u]at h2
      exact VS ⟨h1,h2,by rw[aj (by omega),aq (by omega)]⟩
     .rw[aw f]at h1;rw[aw u]at h2;exact absurd (h1.trans h2.symm) o
   clear o g z
   obtain ⟨rfl,rfl,rfl⟩|⟨rfl,rfl,rfl⟩:=j
   .go_wp2
    go_ret;exact⟨rfl,i⟩
   .go_wp2
    go_ret;exact⟨rfl,i⟩
def Y.asph{w:World}{g:Nat}{s:gW}{a:Option Addr}{n c:Nat}(h:Y w g s a n c):SL w w (some ⟨g,5,none⟩) 4 4 [s.a0,s.a1,s.a2,s.a3]:=by
 obtain⟨_,_,_,_,_,h5,b,d,e,_⟩:=h.cells;refine⟨rfl,ag _,fun _=>⟨g,5,rfl,h.lt,fun j f=>?_⟩⟩
 match j,f with
 |0,_=>exact h5
 |1,_=>exact b
 |2,_=>exact d
 |3,_=>exact e
def Y.phase{w:World}{g:Nat}{s:gW}{a:Option Addr}{n c:Nat}(h:Y w g s a n c):SL w w (some ⟨g,9,none⟩) 2 2 [s.p0,s.p1]:=by
 obtain⟨_,_,_,_,_,_,_,_,_,d,b,_⟩:=h.cells;refine⟨rfl,ag _,fun _=>⟨g,9,rfl,h.lt,fun j e=>?_⟩⟩
 match j,e with
 |0,_=>exact d
 |1,_=>exact b
def uU(s:gW):Bool:=!jr (-1000000000) 1000000000 [s.r9,s.i5,s.tg,s.dx,s.dy]&& !jr (-1000000000) 1000000000 [s.a0,s.a1,s.a2,s.a3]&& !jr (-1000000000) 1000000000 [s.p0,s.p1]
def uV(s:gW):Bool:=!jr (-100000000) 100000000 [s.i4,s.cm]&& !jr (-90000000) 90000000 [s.ax,s.ay,s.az]
def uW(s:gW):Bool:=!jr (-3) 3 [s.order]&& !jr 0 1000000000 [s.i6,s.i7]
def xI(s:gW):Bool:=decide (s.i6=0)||decide (s.i7<s.i6)
def BC(s:gW)(a:Option Addr)(n c g:Nat)(w:World)(h:Y w g s a n c):Calls prog 144 #[U g] w (iZ w (.bool (uU s))):=by
 obtain⟨k0,k1,B,C,D,E,F,K,L,M,m,o,p,q,r,t,u,v,x,y,z,A⟩:=h.cells;have i:=h.lt;have H:=O h;clear h;go_enter func144,ntmps144
 go_wp2_with(first
  |((with_reducible refine(qh _ _ _ _ _ _ (TF (by simp)) (by omega) (by omega) (by omega)).mono ?_);rintro e b ⟨rfl,hb⟩;obtain⟨f,hf⟩:=rp hb;(have j:g<b.heap.size:=by(have:=hb.size;(try simp at this);omega));have d:=O (I (gY (TH _ _)) hb);have S1:=O (Y.asph (Y.go H d i)))
  |((with_reducible refine(qh _ _ _ _ _ _ S1.out (by omega) (by omega) (by omega)).mono ?_);rintro e b ⟨rfl,hb⟩;obtain⟨f,hf⟩:=rp hb;(have j:g<b.heap.size:=by(have:=hb.size;(try simp at this);omega));have k:=O (I d hb);have l:=O (Y.phase (Y.go H k i)))
  |((with_reducible refine(qh _ _ _ _ _ _ l.out (by omega) (by omega) (by omega)).mono ?_);rintro e b ⟨rfl,hb⟩;obtain⟨f,hf⟩:=rp hb;(have j:g<b.heap.size:=by(have:=hb.size;(try simp at this);omega))))
 all_goals
  go_ret;refine⟨?_,by(repeat (first|exact TH _ _|apply gY|apply jA|exact below_chain1 (by assumption)|(refine I ?_ (by assumption))|(refine qo ?_ ?_)))⟩;simp[uU, *]
def BD(s:gW)(a:Option Addr)(n c g:Nat)(w:World)(h:Y w g s a n c):Calls prog 146 #[U g] w (iZ w (.bool (uV s))):=by
 obtain⟨k0,k1,y,z,A,B,C,D,E,F,i,j,k,l,m,o,p,q,r,t,u,v⟩:=h.cells;have x:=h.lt;have H:=O h;clear h;go_enter func146,ntmps146
 go_wp2_with(first
  |((with_reducible refine(qh _ _ _ _ _ _ (Tw (by simp)) (by omega) (by omega) (by omega)).mono ?_);rintro e b ⟨rfl,hb⟩;obtain⟨d,hf⟩:=rp hb;(have f:g<b.heap.size:=by(have:=hb.size;(try simp at this);omega)))
  |((with_reducible refine(qh _ _ _ _ _ _ (TE (by simp)) (by omega) (by omega) (by omega)).mono ?_);rintro e b ⟨rfl,hb⟩;obtain⟨d,hf⟩:=rp hb;(have f:g<b.heap.size:=by(have:=hb.size;(try simp at this);omega))))
 all_goals
  go_ret;refine⟨?_,by(repeat (first|exact TH _ _|apply gY|apply jA|exact below_chain1 (by assumption)|(refine I ?_ (by assumption))|(refine qo ?_ ?_)))⟩;simp[uV, *]
def BE(s:gW)(a:Option Addr)(n c g:Nat)(w:World)(h:Y w g s a n c):Calls prog 147 #[U g] w (iZ w (.bool (uW s))):=by
 obtain⟨k0,k1,y,z,A,B,C,D,E,F,i,j,k,l,m,o,p,q,r,t,u,v⟩:=h.cells;have x:=h.lt;have H:=O h;clear h;go_enter func147,ntmps147
 go_wp2_with(first
  |((with_reducible refine(qh _ _ _ _ _ _ (SY (by simp)) (by omega) (by omega) (by omega)).mono ?_);rintro e b ⟨rfl,hb⟩;obtain⟨d,hf⟩:=rp hb;(have f:g<b.heap.size:=by(have:=hb.size;(try simp at this);omega)))
  |((with_reducible refine(pz _ _ _ _ _ _ _ (Tw (by simp)) (by omega)).mono ?_);rintro e b ⟨rfl,hb⟩;obtain⟨d,hf⟩:=rp hb;(have f:g<b.heap.size:=by(have:=hb.size;(try simp at this);omega))))
 all_goals
  go_ret;refine⟨?_,by(repeat (first|exact TH _ _|apply gY|apply jA|exact below_chain1 (by assumption)|(refine I ?_ (by assumption))|(refine qo ?_ ?_)))⟩;simp[uW, *]
def UU(s:gW)(a:Option Addr)(n c g:Nat)(w:World)(h:Y w g s a n c):Calls prog 148 #[U g] w (iZ w (.bool (xI s))):=by
 obtain⟨k0,k1,r,t,u,v,x,y,z,A,b,d,e,f,i,j,k,l,m,o,p,q⟩:=h.cells;clear h;go_enter func148,ntmps148;go_wp2
 all_goals
  go_ret;refine⟨?_,TH _ _⟩;simp[xI, *]
def BG(s:gW)(a:Option Addr)(n c g:Nat)(w:World)(h:Y w g s a n c):Calls prog 150 #[U g] w (iZ w (.bool (decide (n<=8)))):=by
 obtain⟨k0,k1,t,u,v,x,y,z,A,B,d,e,f,i,j,k,l,m,o,p,q,r⟩:=h.cells;clear h;go_enter func150,ntmps150;go_wp2
 all_goals
  go_ret;refine⟨ai (fun b=>Ending.returned (Value.bool b)) (dj.2 (by omega)),TH _ _⟩
def Wm(c:Int):Bool:=decide ((65<=c/\c<=90)\/(97<=c/\c<=122)\/(48<=c/\c<=57)\/c=45\/c=95)
def kI(s:ByteArray):Bool:=(s.data.toList.all fun c=>Wm (c.toNat:Int))&&decide (1<=s.size)&&decide (s.size<=16)
def xJ(c:Int):(Wm c=true/\((65<=c/\c<=90/\(c==45)=false/\(c==95)=false)\/(97<=c/\c<=122/\(c==45)=false/\(c==95)=false)\/(48<=c/\c<=57/\(c==45)=false/\(c==95)=false)\/(45<=c/\c<=45/\(c==45)=true/\(c==95)=false)\/(95<=c/\c<=95/\(c==45)=false/\(c==95)=true)))\/
 (Wm c=false/\(c==45)=false/\(c==95)=false/\(c<48\/(¬c<=57/\c<65)\/(¬c<=90/\c<97)\/ ¬c<=122)):=by
 by_cases h:(65<=c/\c<=90)\/(97<=c/\c<=122)\/(48<=c/\c<=57)\/c=45\/c=95
 .refine VR ⟨aP h,?_⟩
  simp only[ak,dz];omega
 .refine VS ⟨aw h,?_⟩
  simp only[ak];omega
def WM(c:Int)(w:World):Calls prog 100 #[.int .u8 c] w (iZ w (.bool (Wm c))):=by
 obtain ⟨b,⟨h1,h2,h3,a⟩|⟨h1,h2,h3,a⟩|⟨h1,h2,h3,a⟩|⟨h1,h2,h3,a⟩|⟨h1,h2,h3,a⟩⟩|⟨b,h3,a,h1|⟨h1,h2⟩|⟨h1,h2⟩|h1⟩:=xJ c
 all_goals
  rw[b];clear b;go_enter func100,ntmps100;go_wp2;go_ret;exact⟨by simp<;>omega,TH _ _⟩
def Eh{s:ByteArray}{f:UInt8->Bool}{k:Nat}(h:k<s.size)(h0:(s.data.toList.take k).all f=true):(s.data.toList.take (k+1)).all f=f s[k]:=by
 rw[dV (by simpa using h),er,h0];simp;rfl
def Jn{s:ByteArray}{f:UInt8->Bool}{k:Nat}(h:k<s.size)(h0:f s[k]=false):s.data.toList.all f=false:=by
 rw[dw];intro a
 have:=an.1 a s[k] (by
  have:s[k]=s.data.toList[k]'(by simpa using h):=rfl
  rw[this];exact cW _)
 rw[h0]at this;cases this
def ze(s:ByteArray)(w:World)(q:s.size<=9223372036854775807):Calls prog 64 #[s] w (iZ w (.bool (kI s))):=by
 go_enter func64,ntmps64;go_wp2
 go_loopw [6] (fun h wr=>∃k:Nat,k<=s.size/\h=.int .i64 (k:Int)/\((s.data.toList.take k).all fun c=>Wm (c.toNat:Int))=true/\Below w w wr) (fun h _=>s.size-(intOf h).toNat)
 case atStart=>exact⟨0,aA _,rfl,rfl,TH _ _⟩
 case round=>
  obtain⟨k,p,rfl,i:HQ _,Hb:HQ _⟩:=hrel;by_cases g:k<s.size
  .have l:=O (Eh g i.out)
   by_cases a:Wm (s[k].toNat:Int)=true
   .have b:=O a;clear a
    go_wp2_with((with_reducible refine(WM _ _).mono ?_);rintro e o ⟨f,d⟩;rw[b.out]at f;subst f)
    go_roundw
    case rel=>exact⟨k+1,by omega,by go_num,l.out.trans b.out,I Hb.out d⟩
    case measure=>simp[intOf];omega
   .have a:Wm (s[k].toNat:Int)=false:=by simpa using a
    have b:=O a;clear a
    go_wp2_with((with_reducible refine(WM _ _).mono ?_);rintro e o ⟨f,d⟩;rw[b.out]at f;subst f)
    go_ret;refine⟨?_,I Hb.out d⟩;unfold kI;rw[Jn g b.out];rfl
  .obtain rfl:k=s.size:=by omega
   have h1:(s.data.toList.all fun c=>Wm (c.toNat:Int))=true:=by
    have:=i.out
    rwa[aM (by simp)]at this
   have j:=O h1;clear h1
   by_cases m:1<=s.size<;>by_cases n:s.size<=16
   all_goals
    go_wp2
    all_goals
     go_ret;refine⟨?_,Hb.out⟩;unfold kI;rw[j.out];simp[m,n] <;>omega
def pA(s:ByteArray)(w:World)(n:s.size<=9223372036854775807):Calls prog 51 #[s] w (iZ w (.bool (kI s))):=by
 go_enter func51,ntmps51;go_wp2
 go_loopw [3] (fun f wr=>∃k:Nat,k<=s.size/\f=.int .i64 (k:Int)/\((s.data.toList.take k).all fun c=>Wm (c.toNat:Int))=true/\Below w w wr) (fun f _=>s.size-(intOf f).toNat)
 case atStart=>exact⟨0,aA _,rfl,rfl,TH _ _⟩
 case round=>
  obtain⟨k,m,rfl,g:HQ _,Hb:HQ _⟩:=hrel;by_cases d:k<s.size
  .have i:=O (Eh d g.out)
   obtain ⟨b,⟨h1,h2,h3,a⟩|⟨h1,h2,h3,a⟩|⟨h1,h2,h3,a⟩|⟨h1,h2,h3,a⟩|⟨h1,h2,h3,a⟩⟩|⟨b,h3,a,h1|⟨h1,h2⟩|⟨h1,h2⟩|h1⟩:=xJ (s[k].toNat:Int)
   iterate 5
    .have e:=O b;clear b
     go_wp2
     go_roundw
     case rel=>exact⟨k+1,by omega,by go_num,i.out.trans e.out,Hb.out⟩
     case measure=>simp[intOf];omega
   all_goals
    have e:=O b;clear b;go_wp2
    try(any_goals(exfalso;rename_i hx;simp at hx;omega))
    go_ret;refine⟨?_,Hb.out⟩;unfold kI;rw[Jn d e.out];rfl
  .obtain rfl:k=s.size:=by omega
   have h1:(s.data.toList.all fun c=>Wm (c.toNat:Int))=true:=by
    have:=g.out
    rwa[aM (by simp)]at this
   have h:=O h1;clear h1
   by_cases j:1<=s.size<;>by_cases l:s.size<=16
   all_goals
    go_wp2
    all_goals
     go_ret;refine⟨?_,Hb.out⟩;unfold kI;rw[h.out];simp[j,l] <;>omega
def ik:ByteArray:=⟨#[]⟩
def rI(s:gW):Bool:=s.gA.toList.isEmpty||kI s.gA
def BH(s:gW)(a:Option Addr)(n c g:Nat)(w:World)(h:Y w g s a n c)(b:s.gA.size<=9223372036854775807):Calls prog 149 #[U g] w (iZ w (.bool (rI s))):=by
 obtain⟨k0,k1,u,v,x,y,z,A,B,C,d,f,i,j,k,l,m,o,p,q,r,t⟩:=h.cells;clear h;go_enter func149,ntmps149
 go_wp2_with((with_reducible refine(ze _ _ b).mono ?_);rintro e D ⟨rfl,hb⟩)
 all_goals
  go_ret;refine⟨?_,by(repeat (first|exact TH _ _|apply gY|apply jA|exact below_chain1 (by assumption)|(refine I ?_ (by assumption))|(refine qo ?_ ?_)))⟩;simp[rI, *]
def kT(g:ByteArray):Bool:=g.toList==[77,73,82,82,79,82]
def rJ(s:gW):gW:=
 if s.kind=1 then{s with i5:=0,cm:=0,p0:=if s.order≠0/\kT s.gA=false then s.p0 else 0,p1:=if s.order≠0/\kT s.gA=false then s.p1 else 0,order:=if s.order≠0/\kT s.gA=false then s.order else 0,dx:=0,dy:=0,ax:=0,ay:=0,az:=0}
 else if s.kind=2 then{s with a0:=0,a1:=0,a2:=0,a3:=0,p0:=0,p1:=0,order:=0,dx:=0,dy:=0,ax:=0,ay:=0,az:=0}
 else if s.kind=3 then{kind:=s.kind,r9:=0,i4:=0,i5:=0,cm:=0,a0:=0,a1:=0,a2:=0,a3:=0,p0:=0,p1:=0,order:=0,tg:=s.tg,gA:=ik,i6:=0,i7:=0,dx:=s.dx,dy:=s.dy,ax:=s.ax,ay:=s.ay,az:=s.az}
 else{kind:=s.kind,r9:=s.r9,i4:=0,i5:=0,cm:=0,a0:=0,a1:=0,a2:=0,a3:=0,p0:=0,p1:=0,order:=0,tg:=s.tg,gA:=ik,i6:=s.i6,i7:=s.i7,dx:=0,dy:=0,ax:=0,ay:=0,az:=0}
def sj(w:World)(s:gW)(a:Option Addr)(n c:Nat)(e:Ending)(w':World):Prop:=e=.returned (.agg (⟨s,a,n,c⟩:jt))/\Below w w w'
def zh{B:Nat}{w w':World}(h:Below B w w'):Below B w.drew w'.drew:=⟨h.os,h.tape,h.output,h.size,h.block⟩
def iQ{B g k:Nat}{w:World}{v:Value}(h:B<=g):Below B w.drew (w.setCell ⟨g,k,none⟩ v).drew:=zh ((TH _ _).setCell (p:=⟨g,k,none⟩) h _)
def MH{B g k a:Nat}{w:World}{v u:Value}(h:B<=g):Below B w.drew ((w.setCell ⟨g,k,none⟩ v).setCell ⟨g,a,none⟩ u).drew:=zh (((TH _ _).setCell (p:=⟨g,k,none⟩) h _).setCell (p:=⟨g,a,none⟩) h _)
def ii{w A:World}{g k:Nat}{v:Value}(h:Below w w A)(a:w.heap.size<=g):Below w w (A.setCell ⟨g,k,none⟩ v):=h.setCell (p:=⟨g,k,none⟩) a _
def pd{w:World}{b:Nat}{o:Obj}(h:w.heap[b]? =some o):w.drew.heap[b]? =some o:=h
def Y.of_dr{w:World}{g:Nat}{s:gW}{a:Option Addr}{n c:Nat}(h:w.heap[g]? =some (.cells (⟨s,a,n,c⟩:jt) 58 (0,0))):Y w.drew g s a n c:=h
def VW{w:World}{g:Nat}{l:List Value}{k:Nat}{v:Value}(h:w.heap[g]? =some (.cells l.toArray 58 (0,0))):(w.setCell ⟨g,k,none⟩ v).heap[g]? =some (.cells (l.set k v).toArray 58 (0,0)):=by
 have:=gG h k v
 rwa[bK]at this
structure Tv where
def zS:Tv:=⟨⟩
instance:Coe Tv (Array Value):=⟨fun _=>#[.int .i64 0,.int .i64 0,.int .i64 0,.int .i64 0,.int .i64 0,.int .i64 0,.int .i64 0,.int .i64 0,.int .i64 0,.int .i64 0,.int .i64 0,.int .i64 0,.int .i64 0,.string ik,.int .i64 0,.int .i64 0,.int .i64 0,.int .i64 0,.int .i64 0,.int .i64 0,.int .i64 0,.slice none 0 0]⟩
def jh(w:World)(o p q:Obj):(((w.alloc o).alloc p).alloc q).heap[w.heap.size]? =some o/\(((w.alloc o).alloc p).alloc q).heap[w.heap.size+1]? =some p/\(((w.alloc o).alloc p).alloc q).heap[w.heap.size+2]? =some q:=by
 obtain⟨a,b⟩:=iN w o p;refine⟨?_,?_,?_⟩
 .rw[TJ _ _ _ (by simp;omega)];exact a
 .rw[TJ _ _ _ (by simp)];exact b
 .have:=TL ((w.alloc o).alloc p) q
  simpa using this
def lW(w:World)(o p q:Obj):Below w w (((w.alloc o).alloc p).alloc q):=
 (((TH _ _).alloc (ag _) _).alloc (by simp) _).alloc (by simp;omega) _
def jn(l:List Int)(k:Nat):val (l.take (k+1))=val (l.take k)+l.getD k 0*1000000000^k:=by
 by_cases h:k<l.length
 .exact oY h
 .rw[aM (by omega),aM (by omega),ah,bz (by omega)];simp
def S1(xs ys zs:List Int)(i:Nat)(a:Int):Prop:=
 zs.length=i/\ms zs/\val zs+a*1000000000^i=val (xs.take i)+val (ys.take i)/\0<=a/\a<=1
def S1.step{xs ys zs:List Int}{i:Nat}{c:Int}(h:S1 xs ys zs i c)(f:ms xs)(g:ms ys):
 S1 xs ys (zs++[(xs.getD i 0+ys.getD i 0+c)%1000000000]) (i+1) ((xs.getD i 0+ys.getD i 0+c)/1000000000):=by
 obtain⟨h1,h2,h3,j,h5⟩:=h;have a:=f.all i;have b:=g.all i;refine⟨by simp[h1],h2.append (ms.cons (by omega) ms.nil),?_,by omega,by omega⟩;rw[oD,h1,jn,jn];simp only[val];generalize xs.getD i 0=x at*;generalize ys.getD i 0=y at*
 have e:(x+y+c)%1000000000+(x+y+c)/1000000000*1000000000=x+y+c:=by omega
 have d:val zs+1000000000^i*((x+y+c)%1000000000+1000000000*0)+(x+y+c)/1000000000*1000000000^(i+1)=val zs+((x+y+c)%1000000000+(x+y+c)/1000000000*1000000000)*1000000000^i:=by
  rw[dF,cJ,Int.mul_zero,fB,bN (1000000000^i),kb,bO,bN (1000000000^i) 1000000000]
 rw[d,e,cJ,cJ];omega
def S1.last{xs ys zs:List Int}{i:Nat}(h:S1 xs ys zs i 0)(a:xs.length<=i)(b:ys.length<=i):val zs=val xs+val ys:=by
 have:=h.2.2.1;rw[aM a,aM b]at this;omega
def QQ(w:World)(g h j:Obj)(xs ys:List Int)(e d f:Value)(wr:World):Prop:=
 ∃(i:Nat)(a:Int)(b:Option Addr)(c:Nat)(zs:List Int),e=.slice b zs.length c/\d=.int .i64 a/\f=.int .i64 (i:Int)/\S1 xs ys zs i a/\
  (i<=max xs.length ys.length\/(i=max xs.length ys.length+1/\a=0))/\wr.ownsRow (w+3) 3 1 (.slice b zs.length c) zs.length (zs.map (Value.int .i64))/\
  wr.heap[w.heap.size]? =some g/\wr.heap[w.heap.size+1]? =some h/\wr.heap[w.heap.size+2]? =some j/\Below w w wr/\w.heap.size+3<=wr.heap.size
def X7(N:Nat)(s:Bool)(x y:Int)(a b:Option Addr)(n m c d:Nat)(w:World)(ha:LG N w s a n c x)(hb:LG N w s b m d y)(hN:N<=w.heap.size)(L:(ip (x+y).natAbs).length<=600):
 Calls prog 187 #[.agg #[s,Z a n c],.agg #[s,Z b m d]] w (Sq N w (x+y)):=by
 have A:=O ha;have B:=O hb;clear ha hb;have hn:=A.2.2;have hm:=B.2.2;have a1:=O L;clear L;by_cases h0:n=0
 .subst h0
  have d0:x=0:=by have:=jC.1 A.2.1.len.symm;omega
  obtain⟨q,r,o⟩:=jh w (.cells #[s,Z a 0 c] 178) (.cells #[s,Z b m d] 178) (.cells #[s,Z b m d] 178);obtain⟨c0,c1,_,_⟩:=gQ o;have C0:=O c0;have C1:=O c1;clear c0 c1 q r o;go_enter func187,ntmps187;go_wp2;refine ar (v:=.agg #[s,Z b m d]) ?_ rfl ?_
  .simp[results,results187,go_sem,C0.out,C1.out]
  .have u:=lW w (.cells #[s,Z a 0 c] 178) (.cells #[s,Z b m d] 178) (.cells #[s,Z b m d] 178)
   exact⟨s,b,m,d,rfl,by rw[d0,Int.zero_add];exact(B.mono hN).go u,u,mx.ofLG B⟩
 .have g0:((n:Int)==0)=false:=by simp;omega
  by_cases c9:m=0
  .subst c9
   have d1:y=0:=by have:=jC.1 B.2.1.len.symm;omega
   obtain⟨q,r,o⟩:=jh w (.cells #[s,Z a n c] 178) (.cells #[s,Z b 0 d] 178) (.cells #[s,Z a n c] 178);obtain⟨c0,c1,_,_⟩:=gQ o;have C0:=O c0;have C1:=O c1;clear c0 c1 q r o;go_enter func187,ntmps187;go_wp2;refine ar (v:=.agg #[s,Z a n c]) ?_ rfl ?_
   .simp[results,results187,go_sem,C0.out,C1.out]
   .have u:=lW w (.cells #[s,Z a n c] 178) (.cells #[s,Z b 0 d] 178) (.cells #[s,Z a n c] 178)
    exact⟨s,a,n,c,rfl,by rw[d1,fB];exact(A.mono hN).go u,u,mx.ofLG A⟩
  .have g1:((m:Int)==0)=false:=by simp;omega
   have C:=O (A.2.1.len);have E:=O (B.2.1.len);have a2:=O (iU x.natAbs);have a3:=O (iU y.natAbs);have c5:=O (iY x.natAbs);have c6:=O (iY y.natAbs);have c3:=O ((A.2.1.mono hN));have c4:=O ((B.2.1.mono hN));have c2:=O (show s=decide (x<0)/\s=decide (y<0)from⟨A.1,B.1⟩);generalize ip x.natAbs=xs at*;generalize ip y.natAbs=ys at*;go_enter func187,ntmps187;go_wp2
   go_loopw [5,6,7] (fun dv cv iv wr=>QQ w (.cells #[s,Z a n c] 178 (0,0)) (.cells #[s,Z b m d] 178 (0,0)) (.cells #[false,oN] 178 (0,0)) xs ys dv cv iv wr) (fun _ _ iv _=>max n m+1-(intOf iv).toNat)
   case atStart=>
    obtain⟨q,r,o⟩:=jh w (.cells #[s,Z a n c] 178) (.cells #[s,Z b m d] 178) (.cells #[false,oN] 178);exact⟨0,0,none,0,[],rfl,rfl,rfl,⟨rfl,ms.nil,by simp[val],by omega,by omega⟩,VR (aA _),World.ownsRow_nil _ _ _ _,q,r,o,lW _ _ _ _,by simp⟩
   case round=>
    obtain⟨i,k,va,vc,zs,rfl,rfl,rfl,T,hi,M,W,X,a0,z,P⟩:=hrel;obtain⟨q1,q2,f1,f2⟩:=gQ W;obtain⟨q3,q4,f3,f4⟩:=gQ X;obtain⟨q5,q6,f5,f6⟩:=gQ a0;have b0:=O (c3.go z);have b1:=O (c4.go z);have HS:=O T;have h:=O M;have b2:=O W;have b3:=O X;have b4:=O a0;have d4:=T.2.2.2.1;have d5:=T.2.2.2.2;have a4:=O (show zs.length=i from T.1);clear T M W X a0 f1 f2 f3 f4;have D:=C.out;have F:=E.out
    have a6:i<=max n m\/(i=max n m+1/\k=0):=by rw[D,F];exact hi
    have Hi:=O hi;clear hi D F
    have e0:i<=601:=by omega
    by_cases H:¬i<n/\ ¬i<m/\k=0
    .obtain⟨g2,g3,rfl⟩:=H
     clear a6;have hv:val zs=val xs+val ys:=HS.last (by rw[<- C];omega) (by rw[<- E];omega)
     have hz:x+y=if s then -val zs else val zs:=by
      obtain⟨s1,s2⟩:=c2;rw[hv,c5,c6];cases s
      .have h1:¬x<0:=by simpa using s1
       have h2:¬y<0:=by simpa using s2
       simp;omega
      .have h1:x<0:=by simpa using s1
       have h2:y<0:=by simpa using s2
       simp;omega
     have a5:(ip (val zs).toNat).length<=600:=by
      have h1:=jU HS.2.1
      have:(val zs).toNat=(x+y).natAbs:=by rw[hz];cases s<;>simp<;>omega
      rw[this];exact a1
     have Hz:=O hz;have b5:=O a5;clear hz a5 hv;go_wp2_with fail;refine(nl s zs _ _ _ _ _ (ur h) HS.2.1 (by have:=a4.out;omega) b5 Hz).mono ?_;rintro e w1 ⟨s',a',n',c',rfl,a7,t,hf⟩;have k5:=(t.cell (p:=J (w+2)) (by show w.heap.size+2<wr.heap.size;omega)).trans q5;have k6:=(t.cell (p:=⟨w.heap.size+2,1,none⟩) (by show w.heap.size+2<wr.heap.size;omega)).trans q6;have k7:=(t.frozen (p:=J (w+2)) (by show w.heap.size+2<wr.heap.size;omega)).trans f5;have k8:=(t.frozen (p:=⟨w.heap.size+2,1,none⟩) (by show w.heap.size+2<wr.heap.size;omega)).trans f6;have b9:=O a7;have Hf:=O hf;clear a7 hf;go_wp2_with fail;refine ar (v:=.agg #[s',Z a' n' c']) ?_ rfl ?_
     .simp[results,results187,go_sem,k5,k6]
     .refine⟨s',a',n',c',rfl,mI b9 (mx.ofFresh (N:=0) Hf) (aA _) (by omega) _ _,((z.trans (t.mono z.size)).setCell (by show w.heap.size<=w.heap.size+2;omega) _).setCell (by show w.heap.size<=w.heap.size+2;omega) _,mx.ofFresh (Hf.mono (by omega))⟩
    .have R:i<n\/(¬i<n/\i<m)\/(¬i<n/\ ¬i<m/\0<k):=by omega
     have d8:i<=max n m:=by omega
     have a8:i+1<=max n m\/(i+1=max n m+1/\(xs.getD i 0+ys.getD i 0+k)/1000000000=0)\/i+1=max n m:=by
      by_cases h1:i<max n m
      .exact VR (by omega)
      .refine VS (VR ⟨by omega,?_⟩)
       have h2:xs.getD i 0=0:=by rw[ah,bz (by rw[<- C];omega)];rfl
       have h3:ys.getD i 0=0:=by rw[ah,bz (by rw[<- E];omega)];rfl
       rw[h2,h3];omega
     clear H a6
     have d9:zs.length<=601:=by have:=a4.out;omega
     have d6:=a2.all i;have d7:=a3.all i;have a9:=O (HS.step a2 a3);generalize hxi:xs.getD i 0=xi at*;generalize hyi:ys.getD i 0=yi at*;have c7:=O hxi;have c8:=O hyi;clear hxi hyi
     have e6:0<=(xi+yi+k)%1000000000:=by omega
     have e7:(xi+yi+k)%1000000000<1000000000:=by omega
     have e8:0<=xi+yi+k:=by omega
     obtain g|⟨g,g'⟩|⟨g,g',g''⟩:=R
     all_goals
      go_wp2_with fail;refine gS 11 [(0,true),(1,true),(2,true),(4,true),(5,true),(6,true),(9,true),(3,false),(7,false),(8,true),(10,true)] (by kernel_rfl) (by kernel_rfl) ?_
      iterate 7
       refine gU (v:=?_) ?_ ?_;rotate_left
       .intro x hx
        have z2:=(hx.cell (p:=⟨w.heap.size,1,none⟩) (by show w.heap.size<wr.heap.size;omega)).trans q2;have z4:=(hx.cell (p:=⟨w.heap.size+1,1,none⟩) (by show w.heap.size+1<wr.heap.size;omega)).trans q4;go_simp;with_reducible rfl
       try simp only[V]
      refine gP (fun K S=>?_);go_simp;refine(ux xs a n c i xi _ (by exact b0) (by omega) (by omega) c7).mono ?_;rintro e w4 ⟨rfl,rfl⟩;refine S _ _ (TH _ _) ?_;clear S K;(try simp only[V]);refine gP (fun K S=>?_);go_simp;refine(ux ys b m d i yi _ (by exact b1) (by omega) (by omega) c8).mono ?_;rintro e w4 ⟨rfl,rfl⟩;refine S _ _ (TH _ _) ?_;clear S K;try simp only[V]
      iterate 2
       refine gU (v:=?_) ?_ ?_;rotate_left
       .intro x hx
        go_simp;with_reducible rfl
       try simp only[V]
      refine iu rfl ?_
      go_wp2_with(refine ju rfl (.tmp 57) (.tmp 60) 109 rfl underlying109 (w+3) _ _ zs rfl (h.alloc _) _ _ 1 1 [_] rfl (SL.one wr.drew _ _) (by simp) (by omega) (by simp;omega) ?_)
      intro v' w1 j l;obtain⟨d2,d3,rfl⟩:=kx j;have f:(wr.alloc (.cells #[.int .i64 ((xi+yi+k)%1000000000)] 3)).grownBy w1 (Value.slice va zs.length vc).ownBlock:=pY l;have q:=(jI (base:=w.heap.size+3) h f (b:=w.heap.size) (by omega) P).trans b2;have r:=(jI (base:=w.heap.size+3) h f (b:=w.heap.size+1) (by omega) P).trans b3;have e5:=(jI (base:=w.heap.size+3) h f (b:=w.heap.size+2) (by omega) P).trans b4;have o:=jF z h f (by omega) P;have e4:=f.size;have b6:=O q;have b7:=O r;have b8:=O e5;have Q:=O j;clear q r e5 j l f q1 q2 q3 q4 q5 q6;go_wp2
      go_roundw
      case rel=>
       refine⟨i+1,(xi+yi+k)/1000000000,d2,d3,zs++[(xi+yi+k)%1000000000],by simp,by go_num,by go_num,a9,?_,?_,b6,b7,b8,o,?_⟩
       .rw[<- C,<- E];omega
       .simpa using Q.out
       .simp at e4⊢;omega
      case measure=>simp[intOf];omega
def EC{w:World}{x1 y1 x2 y2 b c:Value}{t:TypeId}{a:World}(hb:Below (((w.alloc (.cells #[x1,y1] t)).alloc (.cells #[x2,y2] t)).alloc (.cells #[b,c] t)).heap.size (((w.alloc (.cells #[x1,y1] t)).alloc (.cells #[x2,y2] t)).alloc (.cells #[b,c] t)) a):
 a.heap[w.heap.size]? =some (.cells #[x1,y1] t (0,0))/\a.heap[w.heap.size+1]? =some (.cells #[x2,y2] t (0,0))/\a.heap[w.heap.size+2]? =some (.cells #[b,c] t (0,0))/\w.heap.size+3<=a.heap.size/\Below w w a:=by
 obtain⟨d,e,f⟩:=jh w (.cells #[x1,y1] t) (.cells #[x2,y2] t) (.cells #[b,c] t);have g:=hb.size;simp at g;exact⟨(hb.block _ (by simp;omega)).trans d,(hb.block _ (by simp)).trans e,(hb.block _ (by simp)).trans f,by omega,mA (mA (mA hb))⟩
def R0(xs ys:List Int)(i:Nat)(a:List Int):Prop:=
 a.length=xs.length+ys.length/\ms a/\val a=val (xs.take i)*val ys
def R1(xs ys:List Int)(i k:Nat)(a:List Int):Prop:=
 a.length=xs.length+ys.length/\ms a/\val a=val (xs.take i)*val ys+xs.getD i 0*val (ys.take k)*1000000000^i
def R2(xs ys:List Int)(i k j:Nat)(t:Int)(a:List Int):Prop:=
 a.length=xs.length+ys.length/\ms a/\0<=t/\t<=999999998000000001/\val a+t*1000000000^j=val (xs.take i)*val ys+xs.getD i 0*val (ys.take (k+1))*1000000000^i
def R0.start(xs ys:List Int):R0 xs ys 0 (List.replicate (xs.length+ys.length) 0):=by
 refine⟨by simp,fun j _=>?_,?_⟩
 .simp only[ah,eR];split<;>simp
 .rw[uQ];simp[val]
def R0.row{xs ys a:List Int}{i:Nat}(h:R0 xs ys i a):R1 xs ys i 0 a:=⟨h.1,h.2.1,by rw[h.2.2];simp[val]⟩
def R1.done{xs ys a:List Int}{i:Nat}(h:R1 xs ys i ys.length a):R0 xs ys (i+1) a:=by
 refine⟨h.1,h.2.1,?_⟩;rw[h.2.2,jn,bf,cJ,bO,bO,bN (1000000000^i)]
def R1.dig{xs ys a:List Int}{i k:Nat}(h:R1 xs ys i k a)(c:ms xs)(d:ms ys):R2 xs ys i k (i+k) (xs.getD i 0*ys.getD k 0) a:=by
 obtain⟨h1,h2,h3⟩:=h;have b:=vj (c.all i) (d.all k);refine⟨h1,h2,b.1,b.2,?_⟩;rw[h3,jn,eh,cJ,Int.pow_add,kb];congr 2;rw[bO,bO,bO,bN (1000000000^i)]
def R2.done{xs ys a:List Int}{i k j:Nat}(h:R2 xs ys i k j 0 a):R1 xs ys i (k+1) a:=⟨h.1,h.2.1,by have:=h.2.2.2.2;omega⟩
def R2.step{xs ys b:List Int}{i k j:Nat}{t:Int}(h:R2 xs ys i k j t b)(c:j<b.length):
 R2 xs ys i k (j+1) ((t+b.getD j 0)/1000000000) (b.set j ((t+b.getD j 0)%1000000000)):=by
 obtain⟨h1,h2,h3,d,h5⟩:=h;have a:=h2.all j;refine⟨by simpa using h1,fun q _=>?_,by omega,by omega,?_⟩
 .rw[rH];split
  .omega
  .exact h2.all q
 .rw[Jj c,<- h5,dF]
  generalize b.getD j 0=z at*;generalize(1000000000:Int)^j=p
  have e:(t+z)%1000000000-z+(t+z)/1000000000*1000000000=t:=by omega
  rw[bN p 1000000000,<- bO,kb,<- cJ,e]
def xR{l:List Int}(h:ms l)(k:Nat):val (l.take k)<=val l:=by
 have e:val l=val (l.take k)+1000000000^(l.take k).length*val (l.drop k):=by rw[<- oD,cA]
 have p:(0:Int)<=1000000000^(l.take k).length:=Int.pow_nonneg (by decide);have:=eH p (jU (h.drop k));omega
def R2.within{xs ys c:List Int}{i k j:Nat}{t:Int}(h:R2 xs ys i k j t c)(a:ms xs)(b:ms ys)(s:0<t):j<xs.length+ys.length:=by
 obtain⟨h1,h2,h3,o,h5⟩:=h;apply bg;intro r
 have e:val (xs.take i)*val ys+xs.getD i 0*val (ys.take (k+1))*1000000000^i<=val (xs.take (i+1))*val ys:=by
  have p:(0:Int)<=1000000000^i:=Int.pow_nonneg (by decide);rw[jn xs i,cJ,bO (xs.getD i 0) (1000000000^i),bO,bN (1000000000^i) (val ys)];have:=ed (bB (xR b (k+1)) p) (a.all i).1;omega
 have f:val (xs.take (i+1))*val ys<=val xs*val ys:=bB (xR a _) (jU b)
 have g:val xs*val ys<1000000000^(xs.length+ys.length):=by
  rw[Int.pow_add];have p1:=rZ a;have v:=rZ b;have d:=jU a;have u:=jU b;have q:(0:Int) <1000000000^ys.length:=fK (by decide)
  calc val xs*val ys<=val xs*1000000000^ys.length:=ed (by omega) d
   _<1000000000^xs.length*1000000000^ys.length:=Int.mul_lt_mul_of_pos_right p1 q
 have l:(1000000000:Int)^(xs.length+ys.length)<=t*1000000000^j:=by
  have x:(1000000000:Int)^(xs.length+ys.length)<=1000000000^j:=by
   have:=dA (n:=1000000000) (by decide) (show xs.length+ys.length<=j by omega);have:=Int.ofNat_le.2 this;rw[dM,dM]at this;exact this
  have w:(0:Int) <1000000000^j:=fK (by decide);have:1*1000000000^j<=t*1000000000^j:=bB (by omega) (by omega);omega
 have m:=jU h2;omega
def Ky(x y:Int):x*y=if(decide (x<0) !=decide (y<0))=true then -((x.natAbs:Int)*y.natAbs)else(x.natAbs:Int)*y.natAbs:=by
 by_cases b:x<0
 .by_cases a:y<0
  .rw[aP b,aP a,aj (by decide),show(x.natAbs:Int)= -x by omega,show(y.natAbs:Int)= -y by omega,Int.neg_mul_neg]
  .rw[aP b,aw a,aq (by decide),show(x.natAbs:Int)= -x by omega,show(y.natAbs:Int)=y by omega,Int.neg_mul,Int.neg_neg]
 .by_cases a:y<0
  .rw[aw b,aP a,aq (by decide),show(x.natAbs:Int)=x by omega,show(y.natAbs:Int)= -y by omega,Int.mul_neg,Int.neg_neg]
  .rw[aw b,aw a,aj (by decide),show(x.natAbs:Int)=x by omega,show(y.natAbs:Int)=y by omega]
def qA(s t:Bool)(x y:Int)(a b:Option Addr)(n m c d:Nat)(w:World)(ha:LG w w s a n c x)(hb:LG w w t b m d y)(F:(ip (x*y).natAbs).length<=600):
 Calls prog 169 #[.agg #[s,Z a n c],.agg #[t,Z b m d]] w (tb w (x*y)):=by
 have hn:=ha.2.2;have hm:=hb.2.2;have Ha:=O ha;have Hb:=O hb;have P:=O F;clear ha hb F;go_enter func169,ntmps169
 go_wp2_with(refine oE rfl (.tmp 16) (.tmp 16) 109 rfl underlying109 ((n:Int)+m) (n+m) rfl rfl (by omega) (by omega) ?_)
 intro Q f S
 have E:Below (((w.alloc (.cells #[s,Z a n c] 178)).alloc (.cells #[t,Z b m d] 178)).alloc (.cells #[false,oN] 178)).heap.size
  (((w.alloc (.cells #[s,Z a n c] 178)).alloc (.cells #[t,Z b m d] 178)).alloc (.cells #[false,oN] 178)) Q:=by simpa using S
 obtain⟨e1,e2,e3,c8,a5⟩:=EC E;clear S E
 have a0:w.heap.size+2<w.heap.size+1+1+1:=by omega
 have c3:=O (show w.heap.size+1+1+1<=w.heap.size+3 by omega);generalize w.heap.size+1+1+1=g at*;have K:=Ha.2.1;have L:=Hb.2.1;have u:=O (iU x.natAbs);have A:=O (iU y.natAbs);have b3:=O (iY x.natAbs);have b4:=O (iY y.natAbs);have b9:=K.len;have c0:=L.len;have b1:=O (show s=decide (x<0)/\t=decide (y<0)from⟨Ha.1,Hb.1⟩);generalize ip x.natAbs=xs at*;generalize ip y.natAbs=ys at*;obtain rfl:=b9;obtain rfl:=c0;have a7:=O K;have a8:=O L;have r:=O a0;have E1:=O e1;have E2:=O e2;have E3:=O e3;clear K L Ha Hb e1 e2 e3 a0;go_wp2
 go_loopw [6] (fun v wr=>∃(i:Nat)(h:List Int),i<=xs.length/\v=.int .i64 i/\vO wr g h/\R0 xs ys i h/\Below g Q wr) (fun v _=>xs.length-(intOf v).toNat)
 case atStart=>exact⟨0,_,aA _,rfl,f,R0.start xs ys,TH _ _⟩
 case round=>
  clear f;obtain⟨i,h,hi,rfl,f,q,l⟩:=hrel;have D:=(l.block w (by have:=r.out;omega)).trans E1;have g2:=(l.block (w+1) (by have:=r.out;omega)).trans E2;have g3:=(l.block (w+2) (by have:=r.out;omega)).trans E3;obtain⟨q1,q2,_,_⟩:=gQ D;obtain⟨q3,q4,_,_⟩:=gQ g2;obtain⟨q5,q6,q7,q8⟩:=gQ g3;clear D g2 g3;by_cases b7:i<xs.length
  .obtain⟨wo,rfl⟩:∃wo:World,wo=wr:=⟨_,rfl⟩
   go_wp2_with fail;clear q1 q2 q3 q4 q5 q6 q7 q8
   go_loopw [7] (fun v wr=>∃(k:Nat)(h:List Int),k<=ys.length/\v=.int .i64 k/\vO wr g h/\R1 xs ys i k h/\Below g Q wr) (fun v _=>ys.length-(intOf v).toNat)
   case atStart=>exact⟨0,_,aA _,rfl,f,q.row,l⟩
   case round=>
    clear f q l;obtain⟨k,h,hk,rfl,f,q,l⟩:=hrel;have D:=(l.block w (by have:=r.out;omega)).trans E1;have g2:=(l.block (w+1) (by have:=r.out;omega)).trans E2;obtain⟨q1,q2,_,_⟩:=gQ D;obtain⟨q3,q4,_,_⟩:=gQ g2;clear D g2;by_cases b8:k<ys.length
    .obtain⟨ba,oa,rfl,T,ca⟩:=a7.at (by omega)
     obtain⟨bb,ob,rfl,W,cb⟩:=a8.at (by omega);have B:=a5.trans (l.mono (by have:=r.out;omega));have D:=(B.cell (p:=⟨ba,oa+i,none⟩) T).trans (ca i b7);have g2:=(B.cell (p:=⟨bb,ob+k,none⟩) W).trans (cb k b8);have c1:=u.all i;have c2:=A.all k;have hq:=q.dig u A;clear ca cb T W B;generalize hxx:xs.getD i 0=xi at*;generalize hyy:ys.getD k 0=yk at*;have b5:=O hxx;have b6:=O hyy;clear hxx hyy;obtain⟨c5,c6⟩:=vj c1 c2;obtain⟨a6,rfl⟩:∃a6:World,a6=wr:=⟨_,rfl⟩;go_wp2_with fail
     go_quiet (fail)
     go_wp2_with fail;clear D g2 q1 q2 q3 q4
     go_loopw [8,9] (fun tv jv wr=>∃(j:Nat)(z:Int)(h:List Int),tv=.int .i64 z/\jv=.int .i64 (j:Int)/\vO wr g h/\R2 xs ys i k j z h/\Below g Q wr/\(0<z->j<xs.length+ys.length)) (fun _ jv _=>xs.length+ys.length-(intOf jv).toNat)
     case atStart=>
      refine⟨i+k,_,h,by rw[<- b5,<- b6],by go_num,f,q.dig u A,gV l _,(q.dig u A).within u A⟩
     case round=>
      clear f q l hq;obtain⟨j,z,h,rfl,rfl,f,q,l,a1⟩:=hrel;have c9:=q.2.2.1;have d0:=q.2.2.2.1;have H:=O (show h.length=xs.length+ys.length from q.1);by_cases N:0<z
      .have hj:=a1 N
       have g2:=f.cell (j:=j) (by have:=H.out;omega);have g3:=f.free j;have c7:=q.2.1.all j;have a4:=q.step (by have:=H.out;omega);generalize hoo:h.getD j 0=o at*;have c4:=O hoo;have R:=O a4;clear hoo a4 a1 q;go_wp2
       go_roundw
       case rel=>
        refine⟨j+1,_,_,rfl,by go_num,f.set j (by have:=H.out;omega) _,R,l.setCell (ag _) _,R.within u A⟩
       case measure=>simp[intOf];omega
      .obtain rfl:z=0:=by omega
       go_wp2
       go_roundw
       case rel=>exact⟨k+1,h,by omega,by go_num,f,q.done,l⟩
       case measure=>simp[intOf];omega
    .obtain rfl:k=ys.length:=by omega
     go_wp2
     go_roundw
     case rel=>exact⟨i+1,h,by omega,by go_num,f,q.done,l⟩
     case measure=>simp[intOf];omega
  .obtain rfl:i=xs.length:=by omega
   obtain⟨a3,hd,hv⟩:=q;rw[bf]at hv;have M:=f.sl (c:=xs.length+ys.length) (by omega);rw[a3]at M
   have N:x*y=if s !=t then -val h else val h:=by
    obtain⟨s1,s2⟩:=b1;rw[hv,b3,b4,s1,s2];exact Ky x y
   have X:(ip (val h).toNat).length<=600:=by
    have h1:=jU hd
    have:(val h).toNat=(x*y).natAbs:=by rw[N];split<;>omega
    rw[this];exact P
   have Hz:=O N;have a9:=O X;have Hd:=O hd;have b2:=O M;clear N X hv a3 hd M;go_wp2_with fail;refine(nl (!(s==t)) h _ _ _ _ _ b2 Hd (by omega) a9 Hz).mono ?_;rintro e w2 ⟨s',a',n',c',rfl,a2,C,hf⟩
   have hlt:w.heap.size+2<wr.heap.size:=by have:=r.out;have:=f.lt;omega
   have k5:=(C.cell (p:=J (w+2)) hlt).trans q5;have k6:=(C.cell (p:=⟨w.heap.size+2,1,none⟩) hlt).trans q6;have k7:=(C.frozen (p:=J (w+2)) hlt).trans q7;have k8:=(C.frozen (p:=⟨w.heap.size+2,1,none⟩) hlt).trans q8;have B:=a5.trans (l.mono (by have:=r.out;omega));have b0:=O a2;have Hf:=O hf;clear a2 hf;go_wp2_with fail;refine ar (v:=.agg #[s',Z a' n' c']) ?_ rfl ?_
   .simp[results,results169,go_sem,k5,k6]
   .exact pF b0 (B.trans (C.mono B.size)) Hf (w+2) hlt (by omega) _ _
def sC(l:List Int){k:Nat}(h:l.length<=k):val (l.take k)=val l:=by rw[aM h]
def wY{a b p:Int}(c:0<p)(h:a*p<b*p):a<b:=Int.lt_of_mul_lt_mul_right h (by omega)
def Sr{x y m:Nat}(_:0<y)(o:m+1=(ip y).length)(j:x<y*1000000000)(r:y<=x){hi a bt:Int}
 (h1:(ip x).getD (m+1) 0=hi)(h2:(ip x).getD m 0=a)(h3:(ip y).getD m 0=bt){k:Int}(e:k=if(hi*1000000000+a)/(bt+1)=0 then 1 else(hi*1000000000+a)/(bt+1)):
 1<=k/\k<1000000000/\k*y<=x/\0<=hi/\hi<1000000000/\0<=a/\a<1000000000/\0<=bt/\bt<1000000000:=by
 have b:=(iU x).all (m+1);have c:=(iU x).all m;have d:=(iU y).all m;rw[h1]at b;rw[h2]at c;rw[h3]at d
 have f:(ip x).length<=m+2:=by
  refine iB ?_;have:=Wu y;rw[<- o]at this
  calc x<y*1000000000:=j
   _<=1000000000^(m+1)*1000000000:=Ui _ (by omega)
   _=1000000000^(m+2):=(bM ..).symm
 have v:(x:Int)=val ((ip x).take m)+(a+hi*1000000000)*1000000000^m:=by
  rw[<- iY x,<- sC (ip x) f,jn,jn,h1,h2,dF,cJ];rw[show hi*(1000000000^m*1000000000)=hi*1000000000*1000000000^m by rw[bN (1000000000^m),bO]];rw[kb]
 have w:(y:Int)=val ((ip y).take m)+bt*1000000000^m:=by
  rw[<- iY y,<- sC (ip y) (k:=m+1) (by omega),jn,h3]
 have B:0<=val ((ip x).take m):=jU ((iU x).take m)
 have C:val ((ip y).take m) <1000000000^m:=by
  have:=rZ ((iU y).take m);rw[bn,cD (by omega)]at this;exact this
 have q:(0:Int) <1000000000^m:=fK (by decide);generalize hP:(1000000000:Int)^m=p at*
 have t:(y:Int) <(bt+1)*p:=by rw[cJ];omega
 have A:(hi*1000000000+a)*p<=x:=by rw[Int.add_comm (hi*1000000000)];omega
 have n:hi*1000000000+a<(bt+1)*1000000000:=by
  refine wY q ?_
  have:(x:Int) <y*1000000000:=by omega
  have l:(y:Int)*1000000000<=(bt+1)*p*1000000000:=bB (by omega) (by decide);rw[bO,bN p,<- bO]at l;omega
 generalize hu:hi*1000000000+a=u at*
 have i:0<=u:=by omega
 have g:0<=u/(bt+1):=Int.ediv_nonneg i (by omega)
 have s:u/(bt+1) <1000000000:=by
  refine Int.ediv_lt_of_lt_mul (by omega) ?_;rw[bN];exact n
 have h:u/(bt+1)*(bt+1)<=u:=Int.ediv_mul_le _ (by omega);refine⟨?_,?_,?_,b.1,b.2,c.1,c.2,d.1,d.2⟩
 .rw[e];split<;>omega
 .rw[e];split<;>omega
 .rw[e];split
  .omega
  .have h5:u/(bt+1)*(y:Int)<=u/(bt+1)*((bt+1)*p):=ed (by omega) g
   rw[<- bO]at h5;have z:u/(bt+1)*(bt+1)*p<=u*p:=bB h (by omega);omega
def D1(c ys:List Int)(k:Int)(i:Nat)(b:Int)(a:List Int):Prop:=
 a.length=c.length/\ms a/\(∀j,i<=j->a.getD j 0=c.getD j 0)/\val (a.take i)+b*1000000000^i=val (c.take i)-k*val (ys.take i)/\ -1000000000<=b/\b<=0
def D1.start{a ys:List Int}{k:Int}(h:ms a):D1 a ys k 0 0 a:=⟨rfl,h,fun _ _=>rfl,by simp[val],by omega,by omega⟩
def C5{x k:Int}(b:0<=x/\x<1000000000)(a:0<=k/\k<1000000000):0<=x*k/\x*k<=999999998000000001:=vj b a
def D1.step{f ys g:List Int}{k c:Int}{i:Nat}(h:D1 f ys k i c g)(n:ms ys)(l:0<=k)(m:k<1000000000)(hi:i<f.length):
 D1 f ys k (i+1) ((f.getD i 0-ys.getD i 0*k+c)/1000000000) (g.set i ((f.getD i 0-ys.getD i 0*k+c)%1000000000)):=by
 obtain⟨h1,h2,h3,r,h5,s⟩:=h;have a:=h2.all i;rw[h3 i (ag _)]at a;have b:=C5 (n.all i) ⟨l,m⟩;refine⟨by simpa using h1,fun j _=>?_,fun j t=>?_,?_,by omega,by omega⟩
 .rw[rH];split
  .omega
  .exact h2.all j
 .rw[rH,aj (by omega)];exact h3 j (by omega)
 .rw[jn,jn,jn,rH,aq ⟨rfl,by omega⟩,List.take_set_of_le (ag _)]
  generalize f.getD i 0=d at*;generalize ys.getD i 0=y at*;generalize val (g.take i)=vo at*;generalize val (f.take i)=vr at*;generalize val (ys.take i)=vy at*;rw[dF];generalize(1000000000:Int)^i=p at*
  have e:(d-y*k+c)%1000000000*p+(d-y*k+c)/1000000000*(p*1000000000)=(d-y*k+c)*p:=by
   rw[bN p 1000000000,<- bO,<- cJ];congr 1;omega
  have o:(d-y*k+c)*p=d*p-k*(y*p)+c*p:=by
   rw[cJ,Int.sub_mul,bN y k,bO]
  have q:k*(vy+y*p)=k*vy+k*(y*p):=eh _ _ _;omega
def D1.done{a ys b:List Int}{k c:Int}(h:D1 a ys k a.length c b)(e:ys.length<=a.length)(f:k*val ys<=val a):ms b/\val b=val a-k*val ys:=by
 obtain⟨h1,h2,h3,d,h5,g⟩:=h;rw[<- h1,bf,h1,bf,sC ys e]at d;refine⟨h2,?_⟩;have hlt:=rZ h2;rw[h1]at hlt;have j:(0:Int) <1000000000^a.length:=fK (by decide);generalize(1000000000:Int)^a.length=p at*
 have:c=0:=by
  apply bg;intro i;have:c*p<= -1*p:=bB (by omega) (by omega);omega
 subst this;omega

def QH(s:gW)(a:Option Addr)(n c:Nat)(w:World)(hk:s.kind=2):Calls prog 143 #[.agg (⟨s,a,n,c⟩:jt)] w (sj w (rJ s) a n c):=by
 obtain⟨kind,r9,i4,i5,cm,a0,a1,a2,a3,p0,p1,order,tg,gA,i6,i7,dx,dy,ax,ay,az⟩:=s;obtain rfl:kind=2:=hk;obtain⟨E1:HQ _,E2:HQ _,E3:HQ _⟩:=BB w (.cells #[.int .i64 2,r9,i4,i5,cm,a0,a1,a2,a3,p0,p1,order,tg,gA,i6,i7,dx,dy,ax,ay,az,Z a n c] 58) (.cells zS 58) (.cells zS 58);have Hb:=O (wU w (.cells #[.int .i64 2,r9,i4,i5,cm,a0,a1,a2,a3,p0,p1,order,tg,gA,i6,i7,dx,dy,ax,ay,az,Z a n c] 58) (.cells zS 58) (.cells zS 58));go_enter func143,ntmps143
 go_wp2_with(refine hE (g:=w.heap.size+2) ⟨2,0,0,0,0,0,0,0,0,0,0,0,tg,ik,0,0,0,0,0,0,0⟩ none 0 0 E3 rfl rfl (.tmp 3) (.tmp 8) rfl rfl rfl ?_;refine jJ (fun d=>Y d w ⟨2,r9,i4,i5,cm,a0,a1,a2,a3,p0,p1,order,tg,gA,i6,i7,dx,dy,ax,ay,az⟩ a n c/\d.heap[w.heap.size+1]? =some (.cells zS 58 (0,0))/\Y d (w+1+1) ⟨2,0,0,0,0,0,0,0,0,0,0,0,tg,ik,0,0,0,0,0,0,0⟩ none 0 0/\Below w w d) ⟨vS.other E1 (by omega) _ _ _ _,vS.other E2 (by omega) _ _ _ _,Y.stored E3 rfl _ _ _ _,Below.put22 Hb (by omega) _ _ _ _⟩ ?_;rintro w1 ⟨h1,h2,h3,hb⟩;have q1:=Y.cells h1)
 clear q1;obtain⟨z0,z1,z2,z3,z4,z5,z6,z7,z8,z9,F,H,L,M,N,P,Q,R,S,T,W,X⟩:=h3.cells;have f0:=Y.free h3 3;have f1:=Y.free h3 4;have hz:=h3.lt;have hl:=h1.lt;refine jw (w+1+1) [0,1,2,3,4] 3 (by kernel_rfl) rfl (by kernel_rfl) (by kernel_rfl) (fun _ _ o _ _ h=>by cases o<;>exact h) ?_
 iterate 5
  refine jW (v:=?_) rfl (by rfl) ?_ ?_;rotate_left
  .intro y j
   obtain⟨y0,y1,y2,y3,y4,y5,y6,y7,y8,y9,p,q,r,t,u,x,z,A,B,C,D,E⟩:=Y.cells (Y.go h1 (gJ (k:=1) j) (by omega));go_simp;rfl
  try simp only[V]
 refine mB ?_;refine ia (i:=5) (fun K b=>?_);go_simp;refine b _ _ (iQ (ag _)) ?_;clear b K;refine ia (i:=6) (fun K b=>?_);go_simp;refine b _ _ (TH _ _) ?_;clear b K;refine ia (i:=7) (fun K b=>?_);go_simp;refine b _ _ (iQ (ag _)) ?_;clear b K;refine lH (by kernel_rfl) ?_;go_upto_region 15 with fail;have e:=VW (k:=4) (v:=.int .i64 cm) (VW (k:=3) (v:=.int .i64 i5) (h3));simp only[aZ,aW]at e;have m:=(gF (gF h1 ⟨w.heap.size+1+1,3,none⟩ (by show w.heap.size+1+1≠w.heap.size;omega) (.int .i64 i5)) ⟨w.heap.size+1+1,4,none⟩ (by show w.heap.size+1+1≠w.heap.size;omega) (.int .i64 cm));have f:=(gF (gF h2 ⟨w.heap.size+1+1,3,none⟩ (by show w.heap.size+1+1≠w.heap.size+1;omega) (.int .i64 i5)) ⟨w.heap.size+1+1,4,none⟩ (by show w.heap.size+1+1≠w.heap.size+1;omega) (.int .i64 cm));refine gI (fun d=>Y d w ⟨2,r9,i4,i5,cm,a0,a1,a2,a3,p0,p1,order,tg,gA,i6,i7,dx,dy,ax,ay,az⟩ a n c/\d.heap[w.heap.size+1]? =some (.cells zS 58 (0,0))/\Y d (w+1+1) ⟨2,0,0,i5,cm,0,0,0,0,0,0,0,tg,ik,0,0,0,0,0,0,0⟩ none 0 0/\Below w w d) ⟨pd m,pd f,Y.of_dr e,jA (ii (ii (hb) (by omega)) (by omega))⟩ ?_;clear hb h2 h3 f e h1 m;rintro w2 ⟨h1,h2,h3,hb⟩;obtain⟨z0,z1,z2,z3,z4,z5,z6,z7,z8,z9,F,H,L,M,N,P,Q,R,S,T,W,X⟩:=h3.cells;have f0:=Y.free h3 1;have f1:=Y.free h3 2;have f2:=Y.free h3 13;have f3:=Y.free h3 14;have f4:=Y.free h3 15;have f5:=Y.free h3 21;have hz:=h3.lt;have hl:=h1.lt;refine jw (w+1+1) [0,1,2,3,4,5,6,7,8,9,10,11,12] 11 (by kernel_rfl) rfl (by kernel_rfl) (by kernel_rfl) (fun _ _ o _ _ h=>by cases o<;>exact h) ?_
 iterate 13
  refine jW (v:=?_) rfl (by rfl) ?_ ?_;rotate_left
  .intro y j
   obtain⟨y0,y1,y2,y3,y4,y5,y6,y7,y8,y9,p,q,r,t,u,x,z,A,B,C,D,E⟩:=Y.cells (Y.go h1 (gJ (k:=1) j) (by omega));go_simp;rfl
  try simp only[V]
 refine mB ?_;refine ia (i:=13) (fun K b=>?_);go_simp;refine b _ _ (iQ (ag _)) ?_;clear b K;refine ia (i:=14) (fun K b=>?_);go_simp;refine b _ _ (TH _ _) ?_;clear b K;refine ia (i:=15) (fun K b=>?_);go_simp;refine b _ _ (iQ (ag _)) ?_;clear b K;refine ia (i:=16) (fun K b=>?_);go_simp;refine b _ _ (TH _ _) ?_;clear b K;refine ia (i:=17) (fun K b=>?_);go_simp;refine b _ _ (iQ (ag _)) ?_;clear b K;refine ia (i:=18) (fun K b=>?_);go_simp;refine b _ _ (TH _ _) ?_;clear b K;refine ia (i:=19) (fun K b=>?_);go_simp;refine b _ _ (iQ (ag _)) ?_;clear b K;refine ia (i:=20) (fun K b=>?_);go_simp;refine b _ _ (TH _ _) ?_;clear b K;refine ia (i:=21) (fun K b=>?_);go_simp;refine b _ _ (iQ (ag _)) ?_;clear b K;refine ia (i:=22) (fun K b=>?_);go_simp;refine b _ _ (TH _ _) ?_;clear b K;refine ia (i:=23) (fun K b=>?_);go_simp;refine b _ _ (iQ (ag _)) ?_;clear b K;refine lH (by kernel_rfl) ?_;go_upto_region 16 with fail;have e:=VW (k:=21) (v:=.slice a n c) (VW (k:=15) (v:=.int .i64 i7) (VW (k:=14) (v:=.int .i64 i6) (VW (k:=13) (v:=.string gA) (VW (k:=2) (v:=.int .i64 i4) (VW (k:=1) (v:=.int .i64 r9) (h3))))));simp only[aZ,aW]at e;have f:=(gF (gF (gF (gF (gF (gF h2 ⟨w.heap.size+1+1,1,none⟩ (by show w.heap.size+1+1≠w.heap.size+1;omega) (.int .i64 r9)) ⟨w.heap.size+1+1,2,none⟩ (by show w.heap.size+1+1≠w.heap.size+1;omega) (.int .i64 i4)) ⟨w.heap.size+1+1,13,none⟩ (by show w.heap.size+1+1≠w.heap.size+1;omega) (.string gA)) ⟨w.heap.size+1+1,14,none⟩ (by show w.heap.size+1+1≠w.heap.size+1;omega) (.int .i64 i6)) ⟨w.heap.size+1+1,15,none⟩ (by show w.heap.size+1+1≠w.heap.size+1;omega) (.int .i64 i7)) ⟨w.heap.size+1+1,21,none⟩ (by show w.heap.size+1+1≠w.heap.size+1;omega) (.slice a n c));refine gI (fun d=>d.heap[w.heap.size+1]? =some (.cells zS 58 (0,0))/\Y d (w+1+1) ⟨2,r9,i4,i5,cm,0,0,0,0,0,0,0,tg,gA,i6,i7,0,0,0,0,0⟩ a n c/\Below w w d) ⟨pd f,Y.of_dr e,jA (ii (ii (ii (ii (ii (ii (hb) (by omega)) (by omega)) (by omega)) (by omega)) (by omega)) (by omega))⟩ ?_;clear hb h2 h3 f e h1;rintro w3 ⟨h2,h3,hb⟩
 go_wp2_with(first
  |(refine gO h3 rfl (.tmp 3) rfl rfl ?_)
  |(refine hE _ _ _ _ h2 rfl rfl (.tmp 2) (.tmp 86) rfl rfl rfl ?_;refine jJ (fun d=>Y d (w+1) ⟨2,r9,i4,i5,cm,0,0,0,0,0,0,0,tg,gA,i6,i7,0,0,0,0,0⟩ a n c/\Below w w d) ⟨Y.stored h2 rfl _ _ _ _,Below.put22 hb (by omega) _ _ _ _⟩ ?_;rintro w9 ⟨h4,l⟩))
 exact ar (lu rfl rfl h4) rfl ⟨rfl,l⟩
def QI(s:gW)(a:Option Addr)(n c:Nat)(w:World)(q:s.kind=3):Calls prog 143 #[.agg (⟨s,a,n,c⟩:jt)] w (sj w (rJ s) none 0 0):=by
 obtain⟨kind,r9,i4,i5,cm,a0,a1,a2,a3,p0,p1,order,tg,gA,i6,i7,dx,dy,ax,ay,az⟩:=s;obtain rfl:kind=3:=q;obtain⟨l:HQ _,E2:HQ _,E3:HQ _⟩:=BB w (.cells #[.int .i64 3,r9,i4,i5,cm,a0,a1,a2,a3,p0,p1,order,tg,gA,i6,i7,dx,dy,ax,ay,az,Z a n c] 58) (.cells zS 58) (.cells zS 58);have m:=O (wU w (.cells #[.int .i64 3,r9,i4,i5,cm,a0,a1,a2,a3,p0,p1,order,tg,gA,i6,i7,dx,dy,ax,ay,az,Z a n c] 58) (.cells zS 58) (.cells zS 58));go_enter func143,ntmps143
 go_wp2_with(refine hE (g:=w.heap.size+2) ⟨3,0,0,0,0,0,0,0,0,0,0,0,tg,ik,0,0,0,0,0,0,0⟩ none 0 0 E3 rfl rfl (.tmp 3) (.tmp 8) rfl rfl rfl ?_;refine jJ (fun d=>Y d w ⟨3,r9,i4,i5,cm,a0,a1,a2,a3,p0,p1,order,tg,gA,i6,i7,dx,dy,ax,ay,az⟩ a n c/\d.heap[w.heap.size+1]? =some (.cells zS 58 (0,0))/\Y d (w+1+1) ⟨3,0,0,0,0,0,0,0,0,0,0,0,tg,ik,0,0,0,0,0,0,0⟩ none 0 0/\Below w w d) ⟨vS.other l (by omega) _ _ _ _,vS.other E2 (by omega) _ _ _ _,Y.stored E3 rfl _ _ _ _,Below.put22 m (by omega) _ _ _ _⟩ ?_;rintro w1 ⟨h1,h2,h3,hb⟩;have t:=Y.cells h1)
 clear t;obtain⟨z0,z1,z2,z3,z4,z5,z6,z7,z8,z9,N,P,Q,R,S,T,W,X,a4,a5,a6,a7⟩:=h3.cells;have f0:=Y.free h3 16;have f1:=Y.free h3 17;have f2:=Y.free h3 18;have f3:=Y.free h3 19;have f4:=Y.free h3 20;have hz:=h3.lt;have hl:=h1.lt;refine jw (w+1+1) [0,1,2,3,4,5,6,7,8,9,10] 9 (by kernel_rfl) rfl (by kernel_rfl) (by kernel_rfl) (fun _ _ o _ _ h=>by cases o<;>exact h) ?_
 iterate 11
  refine jW (v:=?_) rfl (by rfl) ?_ ?_;rotate_left
  .intro y r
   obtain⟨y0,y1,y2,y3,y4,y5,y6,y7,y8,y9,u,x,z,A,B,C,D,E,F,H,L,M⟩:=Y.cells (Y.go h1 (gJ (k:=1) r) (by omega));go_simp;rfl
  try simp only[V]
 refine mB ?_;refine ia (i:=11) (fun K b=>?_);go_simp;refine b _ _ (iQ (ag _)) ?_;clear b K;refine ia (i:=12) (fun K b=>?_);go_simp;refine b _ _ (TH _ _) ?_;clear b K;refine ia (i:=13) (fun K b=>?_);go_simp;refine b _ _ (iQ (ag _)) ?_;clear b K;refine ia (i:=14) (fun K b=>?_);go_simp;refine b _ _ (TH _ _) ?_;clear b K;refine ia (i:=15) (fun K b=>?_);go_simp;refine b _ _ (iQ (ag _)) ?_;clear b K;refine ia (i:=16) (fun K b=>?_);go_simp;refine b _ _ (TH _ _) ?_;clear b K;refine ia (i:=17) (fun K b=>?_);go_simp;refine b _ _ (iQ (ag _)) ?_;clear b K;refine ia (i:=18) (fun K b=>?_);go_simp;refine b _ _ (TH _ _) ?_;clear b K;refine ia (i:=19) (fun K b=>?_);go_simp;refine b _ _ (iQ (ag _)) ?_;clear b K;refine lH (by kernel_rfl) ?_;go_upto_region 11 with fail;have e:=VW (k:=20) (v:=.int .i64 az) (VW (k:=19) (v:=.int .i64 ay) (VW (k:=18) (v:=.int .i64 ax) (VW (k:=17) (v:=.int .i64 dy) (VW (k:=16) (v:=.int .i64 dx) (h3)))));simp only[aZ,aW]at e;have j:=(gF (gF (gF (gF (gF h2 ⟨w.heap.size+1+1,16,none⟩ (by show w.heap.size+1+1≠w.heap.size+1;omega) (.int .i64 dx)) ⟨w.heap.size+1+1,17,none⟩ (by show w.heap.size+1+1≠w.heap.size+1;omega) (.int .i64 dy)) ⟨w.heap.size+1+1,18,none⟩ (by show w.heap.size+1+1≠w.heap.size+1;omega) (.int .i64 ax)) ⟨w.heap.size+1+1,19,none⟩ (by show w.heap.size+1+1≠w.heap.size+1;omega) (.int .i64 ay)) ⟨w.heap.size+1+1,20,none⟩ (by show w.heap.size+1+1≠w.heap.size+1;omega) (.int .i64 az));refine gI (fun d=>d.heap[w.heap.size+1]? =some (.cells zS 58 (0,0))/\Y d (w+1+1) ⟨3,0,0,0,0,0,0,0,0,0,0,0,tg,ik,0,0,dx,dy,ax,ay,az⟩ none 0 0/\Below w w d) ⟨pd j,Y.of_dr e,jA (ii (ii (ii (ii (ii (hb) (by omega)) (by omega)) (by omega)) (by omega)) (by omega))⟩ ?_;clear hb h2 h3 j e h1;rintro w3 ⟨h2,h3,hb⟩
 go_wp2_with(first
  |(refine gO h3 rfl (.tmp 3) rfl rfl ?_)
  |(refine hE _ _ _ _ h2 rfl rfl (.tmp 2) (.tmp 55) rfl rfl rfl ?_;refine jJ (fun d=>Y d (w+1) ⟨3,0,0,0,0,0,0,0,0,0,0,0,tg,ik,0,0,dx,dy,ax,ay,az⟩ none 0 0/\Below w w d) ⟨Y.stored h2 rfl _ _ _ _,Below.put22 hb (by omega) _ _ _ _⟩ ?_;rintro w9 ⟨p,f⟩))
 exact ar (lu rfl rfl p) rfl ⟨rfl,f⟩
def QJ(s:gW)(a:Option Addr)(n c:Nat)(w:World)(q:s.kind=4):Calls prog 143 #[.agg (⟨s,a,n,c⟩:jt)] w (sj w (rJ s) none 0 0):=by
 obtain⟨kind,r9,i4,i5,cm,a0,a1,a2,a3,p0,p1,order,tg,gA,i6,i7,dx,dy,ax,ay,az⟩:=s;obtain rfl:kind=4:=q;obtain⟨l:HQ _,E2:HQ _,E3:HQ _⟩:=BB w (.cells #[.int .i64 4,r9,i4,i5,cm,a0,a1,a2,a3,p0,p1,order,tg,gA,i6,i7,dx,dy,ax,ay,az,Z a n c] 58) (.cells zS 58) (.cells zS 58);have m:=O (wU w (.cells #[.int .i64 4,r9,i4,i5,cm,a0,a1,a2,a3,p0,p1,order,tg,gA,i6,i7,dx,dy,ax,ay,az,Z a n c] 58) (.cells zS 58) (.cells zS 58));go_enter func143,ntmps143
 go_wp2_with(refine hE (g:=w.heap.size+2) ⟨4,0,0,0,0,0,0,0,0,0,0,0,tg,ik,0,0,0,0,0,0,0⟩ none 0 0 E3 rfl rfl (.tmp 3) (.tmp 8) rfl rfl rfl ?_;refine jJ (fun d=>Y d w ⟨4,r9,i4,i5,cm,a0,a1,a2,a3,p0,p1,order,tg,gA,i6,i7,dx,dy,ax,ay,az⟩ a n c/\d.heap[w.heap.size+1]? =some (.cells zS 58 (0,0))/\Y d (w+1+1) ⟨4,0,0,0,0,0,0,0,0,0,0,0,tg,ik,0,0,0,0,0,0,0⟩ none 0 0/\Below w w d) ⟨vS.other l (by omega) _ _ _ _,vS.other E2 (by omega) _ _ _ _,Y.stored E3 rfl _ _ _ _,Below.put22 m (by omega) _ _ _ _⟩ ?_;rintro w1 ⟨h1,h2,h3,hb⟩;have t:=Y.cells h1)
 clear t;obtain⟨z0,z1,z2,z3,z4,z5,z6,z7,z8,z9,N,P,Q,R,S,T,W,X,a4,a5,a6,a7⟩:=h3.cells;have f0:=Y.free h3 1;have f1:=Y.free h3 14;have f2:=Y.free h3 15;have hz:=h3.lt;have hl:=h1.lt;refine jw (w+1+1) [0,1,2,3,4,5,6] 5 (by kernel_rfl) rfl (by kernel_rfl) (by kernel_rfl) (fun _ _ o _ _ h=>by cases o<;>exact h) ?_
 iterate 7
  refine jW (v:=?_) rfl (by rfl) ?_ ?_;rotate_left
  .intro y r
   obtain⟨y0,y1,y2,y3,y4,y5,y6,y7,y8,y9,u,x,z,A,B,C,D,E,F,H,L,M⟩:=Y.cells (Y.go h1 (gJ (k:=1) r) (by omega));go_simp;rfl
  try simp only[V]
 refine mB ?_;refine ia (i:=7) (fun K b=>?_);go_simp;refine b _ _ (iQ (ag _)) ?_;clear b K;refine ia (i:=8) (fun K b=>?_);go_simp;refine b _ _ (TH _ _) ?_;clear b K;refine ia (i:=9) (fun K b=>?_);go_simp;refine b _ _ (iQ (ag _)) ?_;clear b K;refine ia (i:=10) (fun K b=>?_);go_simp;refine b _ _ (TH _ _) ?_;clear b K;refine ia (i:=11) (fun K b=>?_);go_simp;refine b _ _ (iQ (ag _)) ?_;clear b K;refine lH (by kernel_rfl) ?_;go_upto_region 14 with fail;have e:=VW (k:=15) (v:=.int .i64 i7) (VW (k:=14) (v:=.int .i64 i6) (VW (k:=1) (v:=.int .i64 r9) (h3)));simp only[aZ,aW]at e;have j:=(gF (gF (gF h2 ⟨w.heap.size+1+1,1,none⟩ (by show w.heap.size+1+1≠w.heap.size+1;omega) (.int .i64 r9)) ⟨w.heap.size+1+1,14,none⟩ (by show w.heap.size+1+1≠w.heap.size+1;omega) (.int .i64 i6)) ⟨w.heap.size+1+1,15,none⟩ (by show w.heap.size+1+1≠w.heap.size+1;omega) (.int .i64 i7));refine gI (fun d=>d.heap[w.heap.size+1]? =some (.cells zS 58 (0,0))/\Y d (w+1+1) ⟨4,r9,0,0,0,0,0,0,0,0,0,0,tg,ik,i6,i7,0,0,0,0,0⟩ none 0 0/\Below w w d) ⟨pd j,Y.of_dr e,jA (ii (ii (ii (hb) (by omega)) (by omega)) (by omega))⟩ ?_;clear hb h2 h3 j e h1;rintro w3 ⟨h2,h3,hb⟩
 go_wp2_with(first
  |(refine gO h3 rfl (.tmp 3) rfl rfl ?_)
  |(refine hE _ _ _ _ h2 rfl rfl (.tmp 2) (.tmp 67) rfl rfl rfl ?_;refine jJ (fun d=>Y d (w+1) ⟨4,r9,0,0,0,0,0,0,0,0,0,0,tg,ik,i6,i7,0,0,0,0,0⟩ none 0 0/\Below w w d) ⟨Y.stored h2 rfl _ _ _ _,Below.put22 hb (by omega) _ _ _ _⟩ ?_;rintro w9 ⟨p,f⟩))
 exact ar (lu rfl rfl p) rfl ⟨rfl,f⟩
