import Derived.Test.YtgohdcccfkjooaaGreatDoorRows
import Derived.ProofKit
import Derived.OpenShut
import Derived.Lib.ItoaNum
import Derived.Lib.AtoiAll
import Derived.Stop.LaidErr
import Derived.Lay
import Derived.MakeChecks
import Derived.Shelf.Vars
import Derived.StillTail
import Derived.WalkSpells
import Derived.WalkLawsBesides
import Derived.BigQuiet
import Derived.Lib.Hide
import Derived.Laws.CopyOwn
import Derived.Laws.AppendOwnNone
import Derived.Deep.RegionHeld3
import Derived.Deep.AppendLies
namespace Go.Proofs.YtgohdcccfkjooaaGreatDoor
set_option linter.all false
open Go.Proofs.Tryz Go.ChangeShapes Go.WideShapes Go.ChangeAt Go.RowKit Go.Lib
def V:(∀(a:Act)(d:Tmp)(v:Value),a.put (some d) v=⟨a.tmps.setIfInBounds d v,a.defers⟩)/\(∀(a:Act)(v:Value),a.put none v=a)/\(∀(α:Type)(l:List α)(i:Nat)(x:α),l.toArray.setIfInBounds i x=(l.set i x).toArray)/\(∀(α:Type)(x b:α)(l:List α),(x::l).set 0 b=b::l)/\(∀(α:Type)(x b:α)(l:List α)(n:Nat),(x::l).set (n+1) b=x::l.set n b):=⟨fun _ _ _=>rfl,fun _ _=>rfl,fun _ _ _ _=>List.setIfInBounds_toArray ..,fun _ _ _ _=>List.set_cons_zero ..,fun _ _ _ _ _=>List.set_cons_succ ..⟩
instance:Coe Bool Value:=⟨fun b=>.bool b⟩
instance:Coe ByteArray Value:=⟨fun b=>.string b⟩
structure Ue where
 (a:Option Addr) (n c:Nat)
def Z(a:Option Addr)(n c:Nat):Ue:=⟨a,n,c⟩
instance {a:Option Addr} {n c:Nat}:CoeDep Ue (Z a n c) Value:=⟨.slice a n c⟩
instance:Coe Int Value:=⟨fun n=>.int .i64 n⟩
instance:Coe Nat Value:=⟨fun n=>.int .i64 (n:Int)⟩
structure Tt where
def oZ:Tt:=⟨⟩
instance:Coe Tt Value:=⟨fun _=>.int .i64 0⟩
structure Tu where
def oN:Tu:=⟨⟩
instance:Coe Tu Value:=⟨fun _=>.slice none 0 0⟩
structure Ud where
 (n:Nat)
def J(n:Nat):Ud:=⟨n⟩
instance {n:Nat}:CoeDep Ud (J n) Addr:=⟨⟨n,0,none⟩⟩
instance {n:Nat}:CoeDep Ud (J n) (Option Addr):=⟨some ⟨n,0,none⟩⟩
structure Uf where
 (n:Nat)
def U(n:Nat):Uf:=⟨n⟩
instance {n:Nat}:CoeDep Uf (U n) Value:=⟨.pointer (some ⟨n,0,none⟩)⟩
instance:Coe World Nat:=⟨fun w=>w.heap.size⟩
def O{p}(h:p):Go.RowKit.Hid p:=h
abbrev aa:=@Nat.le_refl
abbrev ab:=@Nat.lt_of_lt_of_le
abbrev ae:=@List.getElem?_eq_getElem
abbrev af:=@Nat.le_trans
abbrev TG:=@List.getElem?_eq_some_iff
abbrev ah:=@List.getD_eq_getElem?_getD
abbrev ai:=@congrArg
abbrev aj:=@if_neg
abbrev ak:=@beq_eq_false_iff_ne
abbrev al:=@List.length_append
abbrev am:=@Bool.and_eq_true
abbrev an:=@List.all_eq_true
abbrev aq:=@if_pos
abbrev ar:=@Go.bodyPost_ret
abbrev au:=@List.mem_cons_of_mem
abbrev aw:=@decide_eq_false
abbrev aA:=@Nat.zero_le
abbrev aB:=@Int.natAbs_natCast
abbrev aC:=@List.append_assoc
abbrev aD:=@decide_eq_true_eq
abbrev aE:=@Option.some.inj
abbrev aF:=@List.getElem?_append_left
abbrev aG:=@List.mem_cons_self
abbrev aH:=@List.length_cons
abbrev aI:=@Int.toNat_natCast
abbrev aJ:=@List.mem_range
abbrev aK:=@List.mem_singleton
abbrev aL:=@List.mem_of_getElem?
abbrev aM:=@List.take_of_length_le
abbrev aN:=@List.map_cons
abbrev aO:=@Option.bind_some
abbrev aP:=@decide_eq_true
abbrev aR:=@List.getElem?_map
abbrev aS:=@List.mem_cons
abbrev aT:=@List.map_append
abbrev aU:=@List.length_map
abbrev aV:=@Nat.zero_add
abbrev aW:=@List.set_cons_succ
abbrev aX:=@List.length_eq_zero_iff
abbrev aY:=@List.getElem?_append_right
abbrev aZ:=@List.set_cons_zero
abbrev bc:=@Array.getElem?_toList
abbrev bf:=@List.take_length
abbrev bg:=@Decidable.byContradiction
abbrev bi:=@List.not_mem_nil
abbrev bj:=@List.mem_append
abbrev bn:=@List.length_take
abbrev bo:=@List.getElem?_toArray
abbrev bq:=@Nat.pos_of_ne_zero
abbrev bu:=@Int.tmod_eq_emod_of_nonneg
abbrev bx:=@Nat.le_of_ble_eq_true
abbrev bz:=@List.getElem?_eq_none
abbrev bA:=@Option.some.injEq
abbrev bB:=@Int.mul_le_mul_of_nonneg_right
abbrev bC:=@Bool.false_eq_true
abbrev bD:=@List.nil_append
abbrev bE:=@Nat.add_zero
abbrev bF:=@List.cons_append
abbrev bG:=@List.append_nil
abbrev bH:=@List.mem_or_eq_of_mem_set
abbrev bI:=@List.map_nil
abbrev bJ:=@Bool.eq_iff_iff
abbrev bK:=@List.setIfInBounds_toArray
abbrev bL:=@Int.tdiv_eq_ediv_of_nonneg
abbrev bM:=@Nat.pow_succ
abbrev bN:=@Int.mul_comm
abbrev bO:=@Int.mul_assoc
abbrev bQ:=@Go.run_underlying
abbrev bR:=@Go.Sem.run_bind
abbrev bT:=@List.getElem?_concat_length
abbrev bU:=@Go.Result.andThen_ok
abbrev bV:=@List.range_succ
abbrev bW:=@Int.natCast_mul
abbrev bX:=@if_true
abbrev bY:=@Nat.le_succ
abbrev bZ:=@of_decide_eq_true
abbrev cd:=@Nat.mul_comm
abbrev ce:=@List.flatten_cons
abbrev cm:=@Nat.mul_le_mul_right
abbrev cp:=@List.getElem?_drop
abbrev ct:=@List.forall_mem_cons
abbrev cu:=@Array.getElem?_eq_some_iff
abbrev cw:=@List.any_eq_true
abbrev cx:=@Nat.mod_lt
abbrev cy:=@Nat.pow_pos
abbrev cA:=@List.take_append_drop
abbrev cB:=@Nat.mul_le_mul
abbrev cC:=@Array.setIfInBounds_comm
abbrev cD:=@Nat.min_eq_left
abbrev cE:=@Nat.le_of_lt
abbrev cF:=@List.getElem?_set
abbrev cG:=@List.flatten_append
abbrev cH:=@Int.toNat_of_nonneg
abbrev cI:=@List.length_nil
abbrev cJ:=@Int.add_mul
abbrev cK:=@Nat.div_lt_iff_lt_mul
abbrev cL:=@Bool.and_eq_false_iff
abbrev cM:=@Nat.eq_zero_or_pos
abbrev cN:=@Nat.add_assoc
abbrev cO:=@List.sum_cons
abbrev cP:=@List.mem_map
abbrev cR:=@or_false
abbrev cS:=@List.getElem?_cons_succ
abbrev cT:=@Go.Sem.run_pure
abbrev cU:=@Nat.mul_lt_mul''
abbrev cV:=@Nat.mod_eq_of_lt
abbrev cW:=@List.getElem_mem
abbrev cX:=@Nat.lt_of_le_of_lt
abbrev cY:=@Nat.add_sub_cancel
abbrev cZ:=@List.getElem?_take
abbrev da:=@Int.emod_lt_of_pos
abbrev dc:=@Nat.div_add_mod
abbrev dd:=@Go.Exit.noGoto_ret
abbrev de:=@if_false
abbrev df:=@Nat.succ_mul
abbrev dh:=@List.sum_nil
abbrev di:=@Bool.not_eq_true'
abbrev dj:=@decide_eq_decide
abbrev dk:=@Nat.lt_succ_self
abbrev dm:=@Nat.pow_add
abbrev dn:=@Nat.mul_one
abbrev dp:=@Nat.div_le_self
abbrev dq:=@Int.emod_nonneg
abbrev dr:=@List.length_replicate
abbrev dt:=@List.length_range
abbrev du:=@List.any_eq_false
abbrev dw:=@Bool.eq_false_iff
abbrev dz:=@beq_iff_eq
abbrev dA:=@Nat.pow_le_pow_right
abbrev dB:=@Nat.add_mul
abbrev dC:=@Nat.lt_or_ge
abbrev dD:=@List.map_map
abbrev dE:=@List.filter_cons
abbrev dF:=@Int.pow_succ
abbrev dG:=@List.drop_eq_getElem_cons
abbrev dH:=@Array.getElem?_eq_getElem
abbrev dI:=@List.take_succ_cons
abbrev dJ:=@List.getElem_of_mem
abbrev dK:=@Prod.mk.injEq
abbrev dL:=@List.length_set
abbrev dM:=@Int.natCast_pow
abbrev dN:=@Bool.or_eq_true
abbrev dO:=@List.filter_append
abbrev dP:=@Int.natCast_nonneg
abbrev dQ:=@decide_eq_false_iff_not
abbrev dR:=@Nat.add_sub_cancel_left
abbrev dT:=@Nat.pow_zero
abbrev dU:=@List.take_zero
abbrev dV:=@List.take_succ_eq_append_getElem
abbrev dW:=@List.drop_zero
abbrev dX:=@List.takeWhile_append_dropWhile
abbrev dY:=@Classical.choose_spec
abbrev dZ:=@Nat.mul_pos
abbrev eb:=@Nat.div_lt_of_lt_mul
abbrev ec:=@List.eq_nil_of_length_eq_zero
abbrev ed:=@Int.mul_le_mul_of_nonneg_left
abbrev eh:=@Int.mul_add
abbrev ei:=@List.cons.injEq
abbrev eo:=@List.any_append
abbrev er:=@List.all_append
abbrev et:=@Int.natCast_add
abbrev eu:=@Nat.mul_le_mul_left
abbrev ew:=@List.replicate_succ
abbrev ez:=@List.length_pos_iff
abbrev eA:=@List.getD_cons_succ
abbrev eB:=@Nat.zero_mul
abbrev eC:=@Nat.sub_self
abbrev eD:=@Array.getD_eq_getD_getElem?
abbrev eE:=@List.drop_drop
abbrev eF:=@List.all_takeWhile
abbrev eG:=@Int.natAbs_mul
abbrev eH:=@Int.mul_nonneg
abbrev eI:=@Int.mul_le_mul
abbrev eJ:=@dif_neg
abbrev eK:=@List.take_add_one
abbrev eL:=@Option.isSome_iff_exists
abbrev eM:=@Nat.gcd_pos_of_pos_right
abbrev eN:=@List.any_cons
abbrev eO:=@Nat.div_eq_of_lt
abbrev eP:=@List.mem_flatten
abbrev eQ:=@List.length_drop
abbrev eR:=@List.getElem?_replicate
abbrev eS:=@List.getElem?_cons_zero
abbrev eT:=@Go.wpList_plain
abbrev eU:=@Rat.zero_mul
abbrev eV:=@Nat.mul_zero
abbrev eW:=@Nat.eq_zero_of_not_pos
abbrev eX:=@Nat.div_div_eq_div_mul
abbrev eY:=@List.append_eq_nil_iff
abbrev eZ:=@Option.any_some
abbrev fb:=@List.replicate_zero
abbrev fd:=@List.getD_cons_zero
abbrev fe:=@Array.length_toList
abbrev ff:=@Nat.mul_assoc
abbrev fh:=@List.all_cons
abbrev fi:=@Int.add_assoc
abbrev fj:=@ByteArray.ext
abbrev fk:=@bne_iff_ne
abbrev fm:=@List.findIdx?_eq_some_iff_getElem
abbrev fo:=@dif_pos
abbrev ft:=@Rat.intCast_ofNat
abbrev fu:=@Ne.symm
abbrev fx:=@Nat.zero_mod
abbrev fy:=@Nat.zero_div
abbrev fA:=@Nat.add_comm
abbrev fB:=@Int.add_zero
abbrev fC:=@Go.Addr.add_lit
abbrev fD:=@Array.getElem?_setIfInBounds_ne
abbrev fE:=@forall_eq_or_imp
abbrev fF:=@Rat.mul_le_mul_of_nonneg_right
abbrev fG:=@Nat.gcd_dvd_left
abbrev fH:=@List.take_append
abbrev fI:=@List.countP_cons
abbrev fJ:=@List.cons_ne_nil
abbrev fK:=@Int.pow_pos
abbrev fL:=@Int.one_mul
abbrev fM:=@Int.mul_sub
abbrev fN:=@UInt8.toNat_inj
abbrev fO:=@List.set_append
abbrev fP:=@List.find?_cons
abbrev fQ:=@And.imp
abbrev fR:=@Rat.num_nonneg
abbrev fS:=@Rat.not_lt
abbrev fT:=@Bool.not_false
abbrev fU:=@Array.ext'
abbrev fV:=@List.getLast?_eq_none_iff
abbrev fW:=@Array.getElem_modify_self
abbrev fX:=@Rat.mkRat_def
abbrev fY:=@List.map_id''
abbrev fZ:=@List.head?_dropWhile_not
abbrev gd:=@List.getElem?_take_of_lt
abbrev ge:=@Int.ofNat_inj
abbrev gf:=@Bool.not_true
abbrev gg:=@Nat.exists_eq_add_of_le
abbrev gh:=@List.getLast?_cons_cons
abbrev gi:=@Rat.intCast_le_intCast
abbrev gj:=@Option.map_eq_some_iff
abbrev gk:=@Nat.sub_zero
abbrev gm:=@List.head?_eq_getElem?
abbrev gp:=@List.drop_eq_nil_of_le
abbrev gq:=@List.dropWhile_sublist
abbrev gr:=@Int.ofNat_lt
abbrev gu:=@ByteArray.data_extract
abbrev gv:=@List.length_singleton
abbrev gx:=@List.dropWhile_append
abbrev TH:=@Go.RowKit.Below.refl
abbrev TI:=@Go.RowKit.Below.heap_setCell
abbrev TJ:=@Go.RowKit.Below.heap_alloc
abbrev TK:=@Go.lt_of_block
abbrev TL:=@Go.heap_alloc_new
abbrev TM:=@Go.IntWalk.i64_in
section
variable{P:Program}
def Ed:laidOutB prog=true:=by kernel_rfl
def uT{H}{enc:TypeId×Value->H}{W W':World}(g:Below W W W'):
 ∀(a:List TypeId)(e:List Value)(ds:List (DataW H))(c:List MemPlace),(∀t∈a,prog.readableRec t=true/\t<prog.types.size)->DataW.TrodAll enc prog W 0 (fun _=>true) true a e ds c->
  DataW.TrodAll enc prog W' 0 (fun b=>decide (b<W.heap.size)) true a e ds c
 |[],e,ds,c,_,h=>by
  obtain⟨rfl,rfl,rfl⟩:=trodAll_nil h;exact trodAll_mk0
 |t::a,e,ds,c,hr,h=>by
  obtain⟨v,i,d,f,p,q,rfl,rfl,rfl,h0,h1⟩:=trodAll_cons h;refine trodAll_cons_mk (Below.trod Ed (hr t (by simp)).1 (hr t (by simp)).2 h0 g ?_) (uT g a i f q (fun u k=>hr u (by simp[k])) h1);obtain⟨m,j⟩:=h0;exact DataW.trod_lt m _ _ _ j
def QF{a:List TypeId}(h:a.all (fun t=>P.readableRec t&&decide (t<P.types.size))=true):∀t∈a,P.readableRec t=true/\t<P.types.size:=by
 intro t b;have:=an.1 h t b;simpa using this
def Gy{t:TypeId}{k:IntKind}{W:World}{base:Nat}{v:Value}(a:P.underlying t=some (.int k))(h:Cell.okWide P W .any base t v):
 ∃n,v=.int k n/\k.has n:=by
 unfold Cell.okWide at h;rw[a]at h;unfold Cell.ok at h;rw[a]at h;cases v<;>simp_all
def Gz{t e:TypeId}{k:IntKind}{n:Nat}{W:World}{base:Nat}{v:Value}(A:P.underlying t=some (.array n e))(g:P.cellsOf t=n)
 (o:P.cellTypes P.depth t=some (List.replicate n e))(r:P.underlying e=some (.int k))(h:Value.okWide P W .any base t v):
 ∃zs:List Int,v=.agg (zs.map (Value.int k)).toArray/\zs.length=n/\ ∀z∈zs,k.has z:=by
 unfold Value.okWide at h;rw[A]at h;obtain⟨cs,rfl,q,D,c,-,m⟩:=h;rw[o]at c
 obtain rfl:List.replicate n e=D:=by simpa using c
 have key:∀l:List Value,(∀x∈l,∃z,x=.int k z/\k.has z)-> ∃zs:List Int,l=zs.map (Value.int k)/\zs.length=l.length/\ ∀z∈zs,k.has z:=by
  intro l
  induction l with
  |nil=>exact fun _=>⟨[],rfl,rfl,fun z f=>by simp at f⟩
  |cons x l C=>
   intro p;obtain⟨z,rfl,f⟩:=p x (by simp);obtain⟨zs,rfl,h2,h3⟩:=C (fun y a=>p y (by simp[a]))
   exact⟨z::zs,rfl,by simp,fun y a=>by
    simp at a
    obtain rfl|a:=a
    .exact f
    .exact h3 y a⟩
 obtain⟨zs,h1,h2,h3⟩:=key cs.toList (fun x B=>by
  obtain⟨i,hi,rfl⟩:=dJ B
  have b:i<cs.size:=by simpa using hi
  obtain⟨u,d,j⟩:=m i cs.toList[i] (by simp)
  have w:n≠0:=by
   rw[q,g]at b;exact Nat.ne_of_gt (cX (aA _) b)
  have s:i%n<n:=cx _ (bq w);rw[dr,eR,aq s]at d;simp at d;subst d
  exact Gy r j)
 refine⟨zs,?_,by rw[h2];simp[q,g],h3⟩;rw[<- h1]
end
def jf:Nat->Nat->List UInt8
 |0,_=>[]
 |d+1,r=>if r=0 then[]else UInt8.ofNat (48+r/10^d)::jf d (r%10^d)
def oR(u d:Nat):List UInt8:=decDigits (u/10^d)++(if u%10^d=0 then[]else 46::jf d (u%10^d))
def iz(n:Int)(d:Nat):List UInt8:=(if n<0 then[45]else[])++oR n.natAbs d
def uN:Nat->Nat->List UInt8
 |0,_=>[]
 |d+1,r=>UInt8.ofNat (48+r/10^d%10)::uN d (r%10^d)
def wZ(b:UInt8):Bool:=b==48
def mQ(l:List UInt8):List UInt8:=(l.reverse.dropWhile wZ).reverse
def ED(k):mQ (List.replicate k 48)=[]:=by
 unfold mQ;rw[List.reverse_replicate]
 have:(List.replicate k (48:UInt8)).dropWhile wZ=[]:=by
  induction k with
  |zero=>rfl
  |succ k a=>rw[ew];exact a
 rw[this];rfl
def GQ{b l}(h:b≠48):mQ (b::l)=b::mQ l:=by
 have a:wZ b=false:=by unfold wZ;simpa using h
 unfold mQ;rw[List.reverse_cons,gx]
 cases hd:(l.reverse.dropWhile wZ)with
 |nil=>simp[List.dropWhile,a]
 |cons x xs=>simp
def Be{b l}(h:mQ l≠[]):mQ (b::l)=b::mQ l:=by
 unfold mQ at h⊢;rw[List.reverse_cons,gx]
 cases hd:(l.reverse.dropWhile wZ)with
 |nil=>rw[hd]at h;exact absurd rfl h
 |cons x xs=>simp
def xS:∀d r,(uN d r).length=d
 |0,_=>rfl
 |d+1,r=>by rw[uN,aH,xS d]
def BZ:∀d,uN d 0=List.replicate d 48
 |0=>rfl
 |d+1=>by rw[uN,fy,fx,fx,BZ d];rfl
def vv{k}(h1:0<k)(h2:k<10):UInt8.ofNat (48+k)≠48:=by
 intro h;have:=ai UInt8.toNat h;rw[UInt8.toNat_ofNat']at this;have e:(48:UInt8).toNat=48:=rfl;rw[e]at this;omega
def B3:∀(d r:Nat),r<10^d->mQ (uN d r)=jf d r
 |0,_,_=>rfl
 |d+1,r,h=>by
  have a:0<10^d:=cy (by omega)
  have g:r/10^d<10:=by
   rw[cK a];rw[bM]at h;omega
  rw[uN,jf,cV g]
  by_cases b:r=0
  .rw[aq b,b,fy,fx,BZ]
   exact ED (d+1)
  .rw[aj b]
   have c:=B3 d (r%10^d) (cx _ a)
   by_cases j:r/10^d=0
   .have e:r%10^d=r:=cV (by
     obtain h'|h':=dC r (10^d)
     .exact h'
     .have:=Nat.div_pos h' a;omega)
    have f:mQ (uN d (r%10^d))≠[]:=by
     rw[c,e]
     cases d with
     |zero=>
      have i:=cx r a;rw[e,dT]at i;omega
     |succ d=>rw[jf,aj b];exact fJ _ _
    rw[Be f,c]
   .rw[GQ (vv (bq j) g),c]
def pP:∀(d u:Nat),10^d<=u->decDigits u=decDigits (u/10^d)++uN d (u%10^d)
 |0,u,_=>by simp[uN]
 |d+1,u,h=>by
  have e:0<10^d:=cy (by omega);have h1:10^d<=u:=af (dA (by omega) (by omega)) h
  have a:¬u/10^d<10:=by
   intro hlt;rw[cK e]at hlt;rw[bM]at h;omega
  rw[pP d u h1,decDigits,eJ a,uN,bM,eX,aC]
  congr 1
  have b:u% (10^d*10)/10^d%10=u/10^d%10:=by
   rw[Nat.mod_mul_right_div_self,Nat.mod_mod]
  have c:u% (10^d*10)%10^d=u%10^d:=Nat.mod_mod_of_dvd _ (Nat.dvd_mul_right _ _);rw[b,c];rfl
def zB:∀{d u:Nat},10^d<=u->d+1<=nDigits u
 |0,u,_=>nDigits_pos u
 |d+1,u,h=>by
  have a:¬u<10:=by
   have b:0<10^d:=cy (by omega);rw[bM]at h;omega
  rw[nDigits_big a];have:=zB (d:=d) (u:=u/10) (by rw[bM]at h;omega);omega
def mJ:∀{d u:Nat},u<10^d->1<=d->nDigits u<=d
 |0,_,_,h=>absurd h (by omega)
 |d+1,u,h,_=>by
  by_cases a:u<10
  .rw[nDigits_small a];omega
  .rw[nDigits_big a]
   have h2:u/10<10^d:=by rw[bM]at h;omega
   have b:1<=d:=by
    cases d with
    |zero=>rw[dT]at h2;omega
    |succ d=>omega
   have:=mJ h2 b;omega
def EE:∀(d u:Nat),u<10^d->1<=d->uN d u=List.replicate (d-nDigits u) 48++decDigits u
 |0,_,_,h=>absurd h (by omega)
 |d+1,u,h,_=>by
  have f:0<10^d:=cy (by omega)
  have b:u/10^d<10:=by
   rw[cK f];rw[bM]at h;omega
  by_cases c:10^d<=u
  .have e:nDigits u=d+1:=nDigits_unique d u c h
   rw[e,eC,fb,bD,pP d u c,uN,cV b];rw[decDigits,fo b];rfl
  .have a:u<10^d:=by omega
   rw[uN,eO a,cV a]
   cases d with
   |zero=>
    have:u=0:=by rw[dT]at a;omega
    subst this;rw[nDigits_small (by omega),decDigits,fo (by omega)];rfl
   |succ d=>
    rw[EE (d+1) u a (by omega)]
    have g:nDigits u<=d+1:=by
     obtain hlt|hge:=dC (d+1) (nDigits u)
     .have h1:=mJ a (by omega);omega
     .exact hge
    rw[show d+1+1-nDigits u=(d+1-nDigits u)+1 by omega,ew];rfl
def QS(d u):List.replicate (d+1-(decDigits u).length) 48++decDigits u=decDigits (u/10^d)++uN d (u%10^d):=by
 rw[decDigits_length];have e:0<10^d:=cy (by omega)
 by_cases b:10^d<=u
 .have c:d+1<=nDigits u:=zB b
  rw[show d+1-nDigits u=0 by omega,fb,bD,pP d u b]
 .have a:u<10^d:=by omega
  have h2:u<10^(d+1):=ab a (dA (by omega) (by omega));rw[<- EE (d+1) u h2 (by omega),eO a,cV a,uN,eO a,cV a,decDigits,fo (by omega)];rfl
def rO(s:List UInt8)(d:Nat):List UInt8:=
 let z:=List.replicate (d+1-s.length) 48++s
 let p:=mQ (z.drop (z.length-d))
 z.take (z.length-d)++(if p=[]then[]else 46::p)
def nL:∀{d r:Nat},r<10^d->(jf d r=[]↔r=0)
 |0,r,h=>by rw[dT]at h;exact⟨fun _=>by omega,fun _=>rfl⟩
 |d+1,r,_=>by
  rw[jf]
  by_cases h:r=0
  .rw[aq h];exact⟨fun _=>h,fun _=>rfl⟩
  .rw[aj h];exact⟨fun e=>(fJ _ _ e).elim,fun e=>(h e).elim⟩
def EF(d u):rO (decDigits u) d=oR u d:=by
 have b:0<10^d:=cy (by omega);have a:=cx u b;unfold rO oR;simp only[];rw[QS,al,xS,cY];rw[List.drop_left' rfl,List.take_left' rfl,B3 d _ a]
 congr 1
 by_cases h:u%10^d=0
 .rw[aq h,aq ((nL a).2 h)]
 .rw[aj h,aj (fun e=>h ((nL a).1 e))]
def nw{k}(h:k<10):decDigits k=[UInt8.ofNat (48+k)]:=by rw[decDigits,fo h]
def ma(b:UInt8):Bool:=decide (48<=b.toNat/\b.toNat<=57)
def mX(a:Nat)(l:List UInt8):Nat:=l.foldl (fun a b=>10*a+(b.toNat-48)) a
def mE(a):mX a []=a:=rfl
def lO(a b l):mX a (b::l)=mX (10*a+(b.toNat-48)) l:=by
 unfold mX;rw[List.foldl_cons]
attribute [irreducible] mX
def qZ:∀(l m:List UInt8)(a:Nat),mX a (l++m)=mX (mX a l) m
 |[],m,a=>by rw[mE,bD]
 |b::l,m,a=>by rw[bF,lO,qZ l m,lO]
def lA{k}(h:k<10):(UInt8.ofNat (48+k)).toNat=48+k:=by
 rw[UInt8.toNat_ofNat'];omega
def xd{k}(h:k<10):ma (UInt8.ofNat (48+k))=true:=by
 unfold ma;rw[lA h];simp;omega
def vY{b}(h:ma b=true):∃k,k<10/\b=UInt8.ofNat (48+k):=by
 unfold ma at h;have h:=bZ h;refine⟨b.toNat-48,by omega,?_⟩;rw[show 48+(b.toNat-48)=b.toNat by omega];exact(UInt8.ofNat_toNat).symm
def tQ(u):mX 0 (decDigits u)=u:=by
 induction u using Nat.strongRecOn with
 |_ u ih=>
  by_cases h:u<10
  .rw[nw h,lO,mE,lA h];omega
  .rw[decDigits,eJ h,qZ,ih (u/10) (by omega),lO,mE,lA (by omega)];omega
def nn(u):∀b∈decDigits u,ma b=true:=by
 induction u using Nat.strongRecOn with
 |_ u ih=>
  by_cases h:u<10
  .rw[nw h];intro b a;rw[aK.1 a];exact xd h
  .rw[decDigits,eJ h]
   intro b a
   obtain a|a:=bj.1 a
   .exact ih (u/10) (by omega) b a
   .rw[aK.1 a];exact xd (by omega)
def Bf{u}(h:0<u):∃k l,0<k/\k<10/\decDigits u=UInt8.ofNat (48+k)::l:=by
 induction u using Nat.strongRecOn with
 |_ u ih=>
  by_cases a:u<10
  .exact⟨u,[],h,a,nw a⟩
  .obtain⟨k,l,h1,h2,e⟩:=ih (u/10) (by omega) (by omega)
   refine⟨k,l++[UInt8.ofNat (48+u%10)],h1,h2,?_⟩;rw[decDigits,eJ a,e];rfl
def sE:∀(l:List UInt8)(a:Nat),mX a l=a*10^l.length+mX 0 l
 |[],a=>by rw[mE,mE,cI,dT];omega
 |b::l,a=>by
  rw[lO,lO,sE l (10*a+(b.toNat-48)),sE l (10*0+(b.toNat-48)),aH,bM];rw[eV,aV,dB,cd 10 a,ff,cd 10 (10^l.length)];omega
def oe:∀(d r:Nat),r<10^d-> ∀b∈jf d r,ma b=true
 |0,_,_,b,hb=>by simp[jf]at hb
 |d+1,r,h,b,hb=>by
  have a:0<10^d:=cy (by omega);rw[jf]at hb
  by_cases c:r=0
  .rw[aq c]at hb;cases hb
  .rw[aj c]at hb
   obtain rfl|hb:=aS.1 hb
   .exact xd (by rw[cK a];rw[bM]at h;omega)
   .exact oe d _ (cx _ a) b hb
def pG:∀(d r:Nat),(jf d r).length<=d
 |0,_=>aa _
 |d+1,r=>by
  rw[jf];split
  .exact aA _
  .rw[aH];exact Nat.succ_le_succ (pG d _)
def vZ:∀(d r:Nat),r<10^d->mX 0 (jf d r)*10^(d-(jf d r).length)=r
 |0,r,h=>by rw[dT]at h;rw[jf,mE];omega
 |d+1,r,h=>by
  have b:0<10^d:=cy (by omega);rw[jf]
  by_cases a:r=0
  .rw[aq a,mE,a,eB]
  .rw[aj a]
   have c:r/10^d<10:=by rw[cK b];rw[bM]at h;omega
   have e:=vZ d (r%10^d) (cx _ b);have f:=pG d (r%10^d);rw[lO,lA c,sE,aH,dB,ff,<- dm];rw[show d+1-((jf d (r%10^d)).length+1)=d-(jf d (r%10^d)).length by omega,e];rw[show(jf d (r%10^d)).length+(d-(jf d (r%10^d)).length)=d by omega];rw[eV,aV,dR];have:=dc r (10^d);rw[cd]at this;exact this
def we(t:List UInt8):Option Nat:=
 let w:=t.takeWhile ma
 if w=[]\/(1<w.length/\w.head?=some 48)then none
 else match t.dropWhile ma with
  |[]=>some 0
  |b::f=>if b=46/\f≠[]/\f.all ma=true/\f.getLast?≠some 48 then some f.length else none
def oS(s:List UInt8):Bool×List UInt8:=match s with
 |45::t=>(true,t)
 |s=>(false,s)
def li(s:List UInt8):Option Nat:=if s=[45,48]then none else we (oS s).2
def wg(s:List UInt8):Int:=if(oS s).1 then -((mX 0 (s.filter ma):Nat):Int)else((mX 0 (s.filter ma):Nat):Int)
def Qy{b}(h:ma b=true):(b==46)=false:=by
 obtain⟨k,c,rfl⟩:=vY h;rw[ak];intro e;have:=ai UInt8.toNat e;rw[lA c]at this;have a:(46:UInt8).toNat=46:=rfl;rw[a]at this;omega
def Qz{b}(h:ma b=true):b≠45:=by
 obtain⟨k,c,rfl⟩:=vY h;intro e;have:=ai UInt8.toNat e;rw[lA c]at this;have a:(45:UInt8).toNat=45:=rfl;rw[a]at this;omega
def sF{l:List UInt8}(h:l.all ma=true):l.filter ma=l:=List.filter_eq_self.2 (an.1 h)
def GR{t p}(h:we t=some p):∃w f,w.all ma=true/\w≠[]/\(w.length=1\/w.head?≠some 48)/\f.all ma=true/\f.getLast?≠some 48/\f.length=p/\t=w++(if f=[]then[]else 46::f):=by
 unfold we at h;simp only[]at h;split at h
 .cases h
 .rename_i hw
  have c:t.takeWhile ma≠[]:=fun e=>hw (.inl e)
  have d:(t.takeWhile ma).length=1\/(t.takeWhile ma).head?≠some 48:=by
   by_cases h1:1<(t.takeWhile ma).length
   .exact .inr fun e=>hw (.inr ⟨h1,e⟩)
   .have:0<(t.takeWhile ma).length:=ez.2 c
    exact .inl (by omega)
  have a:(t.takeWhile ma).all ma=true:=eF;have g:t.takeWhile ma++t.dropWhile ma=t:=dX;split at h
  .rename_i e
   cases h;refine⟨t.takeWhile ma,[],a,c,d,rfl,by simp,rfl,?_⟩;rw[e]at g;rw[aq rfl];exact g.symm
  .rename_i b f e
   split at h
   .rename_i hf
    cases h;refine⟨t.takeWhile ma,f,a,c,d,hf.2.2.1,hf.2.2.2,rfl,?_⟩;rw[aj hf.2.1,<- hf.1,<- e];exact g.symm
   .cases h
def te:∀(d r:Nat),r<10^d->(jf d r).getLast?≠some 48
 |0,_,_=>by simp[jf]
 |d+1,r,h=>by
  have a:0<10^d:=cy (by omega)
  have k:r/10^d<10:=by rw[cK a];rw[bM]at h;omega
  have f:=te d (r%10^d) (cx _ a);rw[jf]
  by_cases b:r=0
  .rw[aq b];simp
  .rw[aj b]
   cases e:jf d (r%10^d)with
   |nil=>
    have j:=(nL (cx r a)).1 e
    have i:r/10^d≠0:=by
     intro l;have:=dc r (10^d);rw[l,j,eV]at this;exact b this.symm
    rw[List.getLast?_singleton];intro g;exact vv (bq i) k (aE g)
   |cons c m=>
    rw[gh];rw[e]at f;exact f
def Bg{w r}(h:w.all ma=true)(d:∀b m,r=b::m->ma b=false):(w++r).takeWhile ma=w/\(w++r).dropWhile ma=r:=by
 induction w with
 |nil=>
  cases r with
  |nil=>exact⟨rfl,rfl⟩
  |cons b m=>rw[bD,List.takeWhile_cons,List.dropWhile_cons,d b m rfl];exact⟨rfl,rfl⟩
 |cons c w a=>
  rw[fh,am]at h;have a:=a h.2;rw[bF,List.takeWhile_cons,List.dropWhile_cons,h.1,aq rfl,aq rfl,a.1,a.2];exact⟨rfl,rfl⟩
def MZ{w f}(hw:w.all ma=true)(c:w≠[])(h0:w.length=1\/w.head?≠some 48)(hf:f.all ma=true)(g:f.getLast?≠some 48):we (w++(if f=[]then[]else 46::f))=some f.length:=by
 have d:=Bg (w:=w) (r:=if f=[]then[]else 46::f) hw (by
  intro b m e
  by_cases a:f=[]
  .rw[aq a]at e;cases e
  .rw[aj a]at e;cases e;rfl)
 unfold we;simp only[]
 rw[d.1,d.2,aj (by
  intro h
  obtain h|⟨h1,h2⟩:=h
  .exact c h
  .obtain h0|h0:=h0
   .omega
   .exact h0 h2)]
 by_cases a:f=[]
 .subst a;rfl
 .rw[aj a]
  simp only[];rw[aq ⟨trivial,a,hf,g⟩]
def zC(u):(decDigits u).length=1\/(decDigits u).head?≠some 48:=by
 obtain h|h:=cM u
 .subst h;left;rw[nw (by omega)];rfl
 .right
  obtain⟨k,l,h1,h2,e⟩:=Bf h;rw[e];intro a;exact vv h1 h2 (aE a)
def sG(u):decDigits u≠[]:=by
 intro e;have:=ai List.length e;rw[decDigits_length,cI]at this;have:=nDigits_pos u;omega
def uz(u d):oR u d=decDigits (u/10^d)++(if jf d (u%10^d)=[]then[]else 46::jf d (u%10^d)):=by
 have a:=cx u (cy (by omega):0<10^d);unfold oR
 congr 1
 by_cases h:u%10^d=0
 .rw[aq h,aq ((nL a).2 h)]
 .rw[aj h,aj (fun e=>h ((nL a).1 e))]
def sH{l:List UInt8}(h:∀b∈l,ma b=true):l.all ma=true:=an.2 h
def EG(u d):we (oR u d)=some (jf d (u%10^d)).length:=by
 have a:=cx u (cy (by omega):0<10^d);rw[uz];exact MZ (sH (nn _)) (sG _) (zC _) (sH (oe d _ a)) (te d _ a)
def xT(u d):∃b l,oR u d=b::l/\ma b=true:=by
 unfold oR
 cases e:decDigits (u/10^d)with
 |nil=>exact absurd e (sG _)
 |cons b l=>exact⟨b,_,rfl,nn (u/10^d) b (by rw[e];exact aG)⟩
def rb(n d):oS (iz n d)=(decide (n<0),oR n.natAbs d):=by
 unfold iz
 by_cases h:n<0
 .rw[aq h,aP h];rfl
 .rw[aj h,aw h,bD]
  obtain⟨b,l,e,a⟩:=xT n.natAbs d;rw[e];unfold oS;split
  .rename_i t e2
   cases e2;exact absurd rfl (Qz a)
  .rfl
def B6(n d):li (iz n d)=some (jf d (n.natAbs%10^d)).length:=by
 unfold li;rw[aj,rb]
 .exact EG _ _
 .intro e
  have a:=rb n d;rw[e]at a;have h1:true=decide (n<0):=ai Prod.fst a;have h2:[48]=oR n.natAbs d:=ai Prod.snd a;have h:n<0:=bZ h1.symm;have g:0<10^d:=cy (by omega);have f:=cx n.natAbs g;rw[uz]at h2
  have c:n.natAbs/10^d=0/\jf d (n.natAbs%10^d)=[]:=by
   cases e3:decDigits (n.natAbs/10^d)with
   |nil=>exact absurd e3 (sG _)
   |cons b l=>
    rw[e3,bF]at h2
    injection h2 with h3 h4
    have h5:=eY.1 h4.symm;constructor
    .have:=tQ (n.natAbs/10^d)
     rw[e3,<- h3,h5.1,lO,mE]at this;exact this.symm
    .by_cases hf:jf d (n.natAbs%10^d)=[]
     .exact hf
     .rw[aj hf]at h5;cases h5.2
  have h0:=(nL f).1 c.2;have:=dc n.natAbs (10^d);rw[c.1,h0,eV]at this;omega
structure EH (s:List UInt8) (p:Nat) where
 neg:Bool
 w:List UInt8
 f:List UInt8
 hw:w.all ma=true
 wne:w≠[]
 w0:w.length=1\/w.head?≠some 48
 hf:f.all ma=true
 fl:f.getLast?≠some 48
 fp:f.length=p
 eq:s=(if neg then[45]else[])++(w++(if f=[]then[]else 46::f))
 un:(oS s).1=neg
theorem GS{s p}(h:li s=some p):Nonempty (EH s p):=by
 unfold li at h;split at h
 .cases h
 .obtain⟨w,f,h1,h2,h3,a,h5,b,c⟩:=GR h
  refine⟨⟨(oS s).1,w,f,h1,h2,h3,a,h5,b,?_,rfl⟩⟩;rw[<- c];unfold oS;split<;>rfl
def Dc{s p}(q:EH s p):s.filter ma=q.w++q.f:=by
 have b:ma 46=false:=rfl;have a:ma 45=false:=rfl;refine(ai (List.filter ma) q.eq).trans ?_;rw[dO,dO,sF q.hw]
 have h1:(if q.neg=true then[45]else([]:List UInt8)).filter ma=[]:=by
  split
  .rw[dE,a];rfl
  .rfl
 have h2:(if q.f=[]then([]:List UInt8)else 46::q.f).filter ma=q.f:=by
  split
  .rename_i e;rw[e];rfl
  .rw[dE,b,sF q.hf];rfl
 rw[h1,h2,bD]
def B8:∀(l:List UInt8)(a:Nat),a<=mX a l
 |[],a=>by rw[mE];exact aa _
 |b::l,a=>by rw[lO];exact af (by omega) (B8 l _)
def qC:∀(l:List UInt8)(a:Nat),a<18446744073709551616->(∀b∈l,ma b=true)->parseUint10 a l=if mX a l<18446744073709551616 then .ok (mX a l)else .range
 |[],a,h,_=>by rw[mE,aq h,parseUint10]
 |b::l,a,h,hd=>by
  obtain⟨k,d,rfl⟩:=vY (hd b (aG));have f:=B8 l (10*a+(48+k-48));rw[parseUint10,lA d,aq (by omega),lO,lA d]
  by_cases h1:1844674407370955162<=a
  .rw[aq h1,aj (by omega)]
  .rw[aj h1]
   by_cases h2:18446744073709551616<=a*10+(48+k-48)
   .rw[aq h2,aj (by omega)]
   .rw[aj h2,show a*10+(48+k-48)=10*a+(48+k-48)by omega]
    exact qC l _ (by omega) (fun c e=>hd c (au _ e))
def zD{l}(d:l≠[])(g:∀b∈l,ma b=true)(neg:Bool):atoiAll ((if neg then[45]else[])++l)=if(if neg then -((mX 0 l:Nat):Int)else((mX 0 l:Nat):Int)) < -9223372036854775808\/9223372036854775807<(if neg then -((mX 0 l:Nat):Int)else((mX 0 l:Nat):Int))then .range else .ok (if neg then -((mX 0 l:Nat):Int)else((mX 0 l:Nat):Int)):=by
 have i:parseMag l=if mX 0 l<18446744073709551616 then .ok (mX 0 l)else .range:=by
  unfold parseMag;rw[aj d];exact qC l 0 (by omega) g
 cases neg with
 |true=>
  have e:((if true=true then[45]else[])++l:List UInt8)=45::l:=rfl;rw[e];unfold atoiAll;have f:(45:UInt8).toNat=45:=rfl;simp only[f,or_true,bX];rw[i]
  by_cases a:mX 0 l<18446744073709551616
  .rw[aq a]
   simp only[]
   by_cases h2:9223372036854775808<mX 0 l
   .rw[aj (by simp),aq ⟨trivial,h2⟩,aq (by omega)]
   .rw[aj (by simp),aj (fun h=>h2 h.2),aj (by omega)]
  .rw[aj a]
   simp only[];rw[aq (by omega)]
 |false=>
  have e:((if false=true then[45]else[])++l:List UInt8)=l:=rfl;rw[e]
  cases l with
  |nil=>exact absurd rfl d
  |cons c r=>
   obtain⟨k,m,rfl⟩:=vY (g c (aG));unfold atoiAll;simp only[lA m];rw[aj (by omega),i];generalize mX 0 (UInt8.ofNat (48+k)::r)=v
   by_cases a:v<18446744073709551616
   .rw[aq a]
    have j:¬(48+k=45):=by omega
    simp only[j,bC,de,not_false_eq_true,true_and,false_and]
    by_cases h2:9223372036854775808<=v
    .rw[aq h2,aq (by omega)]
    .rw[aj h2,aj (by omega)]
   .rw[aj a]
    simp only[bC,de];rw[aq (by omega)]
def zE:∀(k a:Nat),mX a (List.replicate k 48)=a*10^k
 |0,a=>by rw[fb,mE];omega
 |k+1,a=>by
  have b:(48:UInt8).toNat=48:=rfl;rw[ew,lO,zE k,b,bM];rw[eC,bE,cd 10 a,ff,cd 10]
def GT{s p}(q:EH s p)(k):atoiAll ((if q.neg then[45]else[])++(q.w++q.f++List.replicate k 48))=if wg s*10^k< -9223372036854775808\/9223372036854775807<wg s*10^k then .range else .ok (wg s*10^k):=by
 have d:∀b∈q.w++q.f++List.replicate k 48,ma b=true:=by
  intro b a
  obtain a|a:=bj.1 a
  .obtain a|a:=bj.1 a
   .exact an.1 q.hw b a
   .exact an.1 q.hf b a
  .rw[List.eq_of_mem_replicate a];rfl
 have c:q.w++q.f++List.replicate k 48≠[]:=by
  intro e;exact q.wne (eY.1 (eY.1 e).1).1
 have g:(if q.neg then -((mX 0 (q.w++q.f++List.replicate k 48):Nat):Int)else((mX 0 (q.w++q.f++List.replicate k 48):Nat):Int))=wg s*10^k:=by
  unfold wg;rw[q.un,qZ,zE,Dc q]
  cases q.neg with
  |true=>
   simp only[bX];rw[bW,dM,Int.neg_mul];rfl
  |false=>
   simp only[bC,de];rw[bW,dM];rfl
 rw[zD c d,g]

def K7(b:UInt8):Bool:=b==32||b==9
def Dq:List UInt8->List UInt8->List (List UInt8)
 |w,[]=>if w=[]then[]else[w]
 |w,b::l=>if K7 b then(if w=[]then Dq [] l else w::Dq [] l)else Dq (w++[b]) l
def io:List UInt8->List UInt8->List (List UInt8)
 |w,[]=>[w]
 |w,b::l=>if b==10 then w::io [] l else io (w++[b]) l
def SO:ma 45=false:=by decide
def SP:ma 46=false:=by decide
def Ox(n d):wg (iz n d)*10^(d-(jf d (n.natAbs%10^d)).length)=n:=by
 have b:=cx n.natAbs (cy (by omega):0<10^d);have c:(decDigits (n.natAbs/10^d)).filter ma=decDigits (n.natAbs/10^d):=sF (sH (nn _));have e:(jf d (n.natAbs%10^d)).filter ma=jf d (n.natAbs%10^d):=sF (sH (oe d _ b))
 have hf:(oR n.natAbs d).filter ma=decDigits (n.natAbs/10^d)++jf d (n.natAbs%10^d):=by
  rw[uz,dO,c];split
  .rename_i h;rw[h];rfl
  .rw[dE,SP,aj (by simp),e]
 have a:(iz n d).filter ma=decDigits (n.natAbs/10^d)++jf d (n.natAbs%10^d):=by
  unfold iz;rw[dO,hf];split
  .rw[dE,SO];rfl
  .rfl
 have f:mX 0 ((iz n d).filter ma)*10^(d-(jf d (n.natAbs%10^d)).length)=n.natAbs:=by
  rw[a,qZ,tQ,sE,dB,vZ d _ b,ff,<- dm];rw[Nat.add_sub_cancel' (pG d _),cd,dc]
 have hi:((mX 0 ((iz n d).filter ma):Nat):Int)*10^(d-(jf d (n.natAbs%10^d)).length)=(n.natAbs:Int):=by
  exact_mod_cast f
 unfold wg;rw[rb]
 by_cases h:n<0
 .rw[aP h,aq rfl,Int.neg_mul,hi];omega
 .rw[aw h,aj (by simp),hi];omega
def DT(b:UInt8):Bool:=ma b||b==45||b==46
def CF(n d):iz n d≠[]/\ ∀b∈iz n d,DT b=true:=by
 have f:=cx n.natAbs (cy (by omega):0<10^d);constructor
 .intro e
  have:=rb n d;rw[e]at this;have h2:[]=oR n.natAbs d:=ai Prod.snd this;obtain⟨b,l,c,_⟩:=xT n.natAbs d;rw[c]at h2;cases h2
 .intro b a
  unfold iz at a;rw[uz,bj,bj]at a;unfold DT
  obtain a|a|a:=a
  .split at a
   .rw[aK]at a;subst a;decide
   .cases a
  .rw[nn _ b a];rfl
  .split at a
   .cases a
   .obtain rfl|a:=aS.1 a
    .decide
    .rw[oe d _ f b a];rfl
def Oy{b}(h:DT b=true):K7 b=false/\b≠10/\b≠35:=by
 unfold DT ma at h;simp only[dN,aD,dz]at h;refine⟨?_,?_,?_⟩
 .unfold K7
  rw[Bool.or_eq_false_iff,ak,ak];constructor
  .rintro rfl;revert h;decide
  .rintro rfl;revert h;decide
 .rintro rfl;revert h;decide
 .rintro rfl;revert h;decide
def RG(w:List UInt8):Prop:=w≠[]/\ ∀b∈w,K7 b=false/\b≠10/\b≠35
instance (w:List UInt8):Decidable (RG w):=inferInstanceAs (Decidable (w≠[]/\ ∀b∈w,K7 b=false/\b≠10/\b≠35))
def Bu{H}{enc:TypeId×Value->H}{a C os f fn s m b n d l}{X:World->Array Value->Prop}(D:∀(w w':World)(args:Array Value),w.heap=w'.heap->X w args->X w' args)(own:ownKnob C.prog.godebug=none)(h:os.Started)(o:C.prog.inits.idxOf? f=none)(y:C.prog.funcs[f]? =some fn)(k:∃(w:World)(tape:Tape)(i:Input),w.os=os/\(w.forCall tape i).Shaped C.prog/\i.vars=[]/\Input.okWide C.prog (w.forCall tape i) .any w f i/\
   ((s.pre enc C.prog fn m b (w.forCall tape i).memory i.args/\X (w.forCall tape i).memory i.args)/\sizedMet enc C.prog fn (OpenSpec.ofChange s) b (w.forCall tape i).memory i.args)/\a.holds C.prog (lone (Frame.enter C.prog f i.args .normal) [] (w.forCall tape i)))(g:∀(W:World)(base:Nat)(args:Array Value)(ds u:List (DataW H))(c:List MemPlace),
   (∀(j:Nat) t v,fn.params[j]? =some t->args[j]? =some v->Value.okWide C.prog W .any base t v)->
   DataW.Whole enc C.prog fn.params.toList s.vars b W args.toList ds u c->X W args->W.ShapedOpen C.prog->
   Calls C.prog f args W fun e W'=>∃v,e=.returned v/\s.post enc C.prog fn b n d l W args v W'):
 ReturnsInHanded a C os f .any (fun w args=>(s.pre enc C.prog fn m b w args/\X w args)/\sizedMet enc C.prog fn (OpenSpec.ofChange s) b w args) (s.post enc C.prog fn b n d l):=by
 refine returnsInHanded_of_calls own h o k ?_;intro w tape i _ A _ z q _;obtain⟨_,_,_,x,p,_,_,_,_,r⟩:=z;have e:x=fn:=aE (p.symm.trans y);subst e;obtain⟨⟨⟨ds,u,c,hw,_⟩,E⟩,_⟩:=q;have B:=DataW.Whole.of_heap (w':=w.forCall tape i) (by rfl) hw
 refine(g (w.forCall tape i) w i.args ds u c r B (D _ _ _ (by rfl) E) A).mono fun e W' ⟨v,he,hp⟩=>?_
 subst he;exact ChangeSpec.post_blind hp
def val:List Int->Int
 |[]=>0
 |d::l=>d+1000000000*val l
def mv(l:List Int):Prop:=∀j,j<l.length->0<=l.getD j 0/\l.getD j 0<1000000000
def mv.nil:mv []:=fun j h=>by simp at h
def mv.head{d:Int}{l}(h:mv (d::l)):0<=d/\d<1000000000:=by simpa using h 0 (by simp)
def mv.tail{d:Int}{l}(h:mv (d::l)):mv l:=fun j a=>by simpa using h (j+1) (by simpa using a)
def mv.cons{d l}(a:0<=d/\d<1000000000)(h:mv l):mv (d::l):=fun j b=>by
 cases j with
 |zero=>simpa using a
 |succ j=>simpa using h j (by simpa using b)
def mv.all{l}(h:mv l)(j):0<=l.getD j 0/\l.getD j 0<1000000000:=by
 by_cases a:j<l.length
 .exact h j a
 .rw[ah,bz (by omega)];simp
def mv.append{l m}(b:mv l)(c:mv m):mv (l++m):=fun j _=>by
 by_cases a:j<l.length
 .rw[ah,aF a,<- ah];exact b j a
 .rw[ah,aY (by omega),<- ah];exact c.all _
def mv.take{l}(h:mv l)(k):mv (l.take k):=fun j b=>by
 have a:j<k:=by have:=List.length_take_le k l;omega
 have e:(l.take k).getD j 0=l.getD j 0:=by simp[ah,a]
 rw[e];exact h.all j
def mv.drop{l}(h:mv l)(k):mv (l.drop k):=fun j _=>by
 have e:(l.drop k).getD j 0=l.getD (k+j) 0:=by simp[ah,cp]
 rw[e];exact h.all _
def jU{l}(h:mv l):0<=val l:=by
 induction l with
 |nil=>simp[val]
 |cons d l a=>have:=h.head;have:=a h.tail;simp only[val];omega
def oD(l m):val (l++m)=val l+1000000000^l.length*val m:=by
 induction l with
 |nil=>simp[val]
 |cons d l a=>simp only[bF,val,a,aH,dF,eh];rw[bN (1000000000^l.length) 1000000000,bO];omega
def rZ{l}(h:mv l):val l<1000000000^l.length:=by
 induction l with
 |nil=>simp[val]
 |cons d l a=>have:=h.head;have:=a h.tail;simp only[val,aH,dF];omega
def uQ(n):val (List.replicate n 0)=0:=by
 induction n with
 |zero=>rfl
 |succ n a=>simp only[ew,val,a];omega
def Jj{l i}(h:i<l.length)(v):val (l.set i v)=val l+(v-l.getD i 0)*1000000000^i:=by
 induction l generalizing i with
 |nil=>simp at h
 |cons d l a=>
  cases i with
  |zero=>simp only[aZ,val,fd,Int.pow_zero];omega
  |succ i=>
   simp only[aW,val,eA,a (by simpa using h),dF];rw[<- bO,eh,bN (_*_) 1000000000];omega
def oY{l:List Int}{k}(h:k<l.length):val (l.take (k+1))=val (l.take k)+l.getD k 0*1000000000^k:=by
 have e:l.take (k+1)=l.take k++[l.getD k 0]:=by
  rw[eK,ae h];simp[ah,ae h]
 rw[e,oD,bn,cD (by omega)];simp only[val,Int.mul_zero,fB];rw[bN]
def Ea{l:List Int}{k}(h:k<l.length):val (l.drop k)=l.getD k 0+1000000000*val (l.drop (k+1)):=by
 rw[dG h];simp[val,ah,ae h]
def ip(n:Nat):List Int:=if n=0 then[]else((n%1000000000:Nat):Int)::ip (n/1000000000)
termination_by n
decreasing_by omega
def jP:ip 0=[]:=by rw[ip];simp
def nU{n}(h:0<n):ip n=((n%1000000000:Nat):Int)::ip (n/1000000000):=by rw[ip,aj (by omega)]
def iU(n):mv (ip n):=by
 induction n using Nat.strongRecOn with
 |_ n ih=>
  by_cases h:n=0
  .subst h;rw[jP];exact mv.nil
  .rw[nU (by omega)];exact mv.cons (by omega) (ih _ (by omega))
def iY(n):val (ip n)=n:=by
 induction n using Nat.strongRecOn with
 |_ n ih=>
  by_cases h:n=0
  .subst h;rw[jP];rfl
  .rw[nU (by omega)];simp only[val,ih _ (show n/1000000000<n by omega)];omega
def Sg(l:List Int):Prop:=0<l.length->l.getD (l.length-1) 0≠0
def My(n):Sg (ip n):=by
 induction n using Nat.strongRecOn with
 |_ n ih=>
  by_cases h:n=0
  .subst h;rw[jP];intro h;simp at h
  .rw[nU (by omega)]
   intro _
   by_cases h2:n/1000000000=0
   .rw[h2,jP];simp;omega
   .have:=ih _ (show n/1000000000<n by omega)
    rw[nU (n:=n/1000000000) (by omega)]at this⊢;simpa using this (by simp)
def Sg.tail{d:Int}{l}(h:Sg (d::l)):Sg l:=by
 intro a;have:=h (by simp)
 cases l with
 |nil=>simp at a
 |cons e l=>simpa using this
def Mz{l}(h:mv l)(a:Sg l):ip (val l).toNat=l:=by
 induction l with
 |nil=>simp only[val];exact jP
 |cons d l g=>
  have h1:=h.head;have h2:=jU h.tail;have h3:=g h.tail a.tail
  have e:0<(val (d::l)).toNat:=by
   simp only[val]
   by_cases h0:d=0
   .have:l≠[]:=by rintro rfl;exact a (by simp) (by simpa using h0)
    by_cases f:val l=0
    .rw[f]at h3;rw[Int.toNat_zero,jP]at h3;exact absurd h3.symm this
    .omega
   .omega
  rw[nU e]
  have b:(((val (d::l)).toNat%1000000000:Nat):Int)=d:=by simp only[val];omega
  have c:(val (d::l)).toNat/1000000000=(val l).toNat:=by simp only[val];omega
  rw[b,c,h3]
def JX{l:List Int}{k j}(h:j<k):(l.take k).getD j 0=l.getD j 0:=by
 simp[ah,h]
def AY{l:List Int}{k}(h:k<l.length)(a:l.getD k 0=0):val (l.take (k+1))=val (l.take k):=by
 rw[oY h,a];omega
def MA{l:List Int}{k}(h:k<=l.length)(c:k=0\/l.getD (k-1) 0≠0):Sg (l.take k):=by
 intro b
 have a:(l.take k).length=k:=by rw[bn,cD h]
 rw[a]at b⊢;rw[JX (by omega)];exact c.resolve_left (by omega)
def CT{l k}{n:Nat}(a:mv l)(h:k<=l.length)(c:k=0\/l.getD (k-1) 0≠0)(b:val (l.take k)=n):l.take k=ip n:=by
 rw[<- Mz (a.take k) (MA h c),b];rfl
def iB{n k}(h:n<1000000000^k):(ip n).length<=k:=by
 induction k generalizing n with
 |zero=>have:n=0:=by simpa using h
        subst this;rw[jP];simp
 |succ k a=>
  by_cases h0:n=0
  .subst h0;rw[jP];simp
  .rw[nU (by omega),aH]
   have:n/1000000000<1000000000^k:=by rw[bM]at h;exact eb (by rw[cd];exact h)
   have:=a this;omega
def sb(n):n<1000000000^(ip n).length:=by
 have h:=rZ (iU n);rw[iY]at h
 have e:((1000000000^(ip n).length:Nat):Int)=(1000000000:Int)^(ip n).length:=by rw[dM];rfl
 rw[<- e]at h;exact gr.1 h
def iM{n m}(h:n<=m):(ip n).length<=(ip m).length:=
 iB (cX h (sb m))
def jC{n}:(ip n).length=0↔n=0:=by
 constructor
 .intro h;have:=sb n;rw[h]at this;omega
 .rintro rfl;rw[jP];rfl
def qS(x y:List Int):Nat->Int
 |0=>0
 |k+1=>if x.getD k 0=y.getD k 0 then qS x y k else x.getD k 0-y.getD k 0
def yW{x y}(c:mv x)(d:mv y):∀k,k<=x.length->k<=y.length->
 ((0<qS x y k↔val (y.take k) <val (x.take k))/\(qS x y k<0↔val (x.take k) <val (y.take k))/\ -1000000000<qS x y k/\qS x y k<1000000000)
 |0,_,_=>by simp[qS]
 |k+1,h1,h2=>by
  have e:=yW c d k (by omega) (by omega);rw[oY (by omega),oY (by omega)];have a1:=c.all k;have a2:=d.all k;have b1:=rZ (c.take k);have b2:=rZ (d.take k);have c1:=jU (c.take k);have c2:=jU (d.take k);rw[bn,cD (by omega)]at b1 b2;simp only[qS];generalize(1000000000:Int)^k=p at*;generalize val (x.take k)=u at*;generalize val (y.take k)=v at*;generalize x.getD k 0=a at*;generalize y.getD k 0=b at*
  by_cases h:a=b
  .subst h;rw[aq rfl];refine⟨by rw[e.1];omega,by rw[e.2.1];omega,e.2.2.1,e.2.2.2⟩
  .rw[aj h]
   have f:0<p:=by omega
   obtain hlt|hgt:=Int.lt_or_gt_of_ne h
   .have:(a+1)*p<=b*p:=bB (by omega) (by omega)
    rw[cJ,fL]at this;exact⟨by omega,by omega,by omega,by omega⟩
   .have:(b+1)*p<=a*p:=bB (by omega) (by omega)
    rw[cJ,fL]at this;exact⟨by omega,by omega,by omega,by omega⟩
def JY(x y:List Int):Int:=if x.length=y.length then qS x y x.length else(x.length:Int)-y.length
def JZ{m n}:(0<JY (ip m) (ip n)↔n<m)/\(JY (ip m) (ip n) <0↔m<n):=by
 unfold JY
 by_cases h:(ip m).length=(ip n).length
 .rw[aq h]
  have:=yW (iU m) (iU n) (ip m).length (aa _) (by omega);rw[bf,h,bf,iY,iY]at this;rw[h];exact⟨by rw[this.1];omega,by rw[this.2.1];omega⟩
 .rw[aj h]
  constructor
  .constructor
   .intro h2
    apply bg;intro h3
    have:=iM (show m<=n by omega);omega
   .intro h2
    have:=iM (show n<=m by omega);omega
  .constructor
   .intro h2
    apply bg;intro h3
    have:=iM (show n<=m by omega);omega
   .intro h2
    have:=iM (show m<=n by omega);omega
def dl:Nat->Nat->List UInt8
 |0,_=>[]
 |m+1,u=>UInt8.ofNat (48+u%10)::dl m (u/10)
def Ca:∀(i u:Nat),(ip u).getD i 0=((u/1000000000^i%1000000000:Nat):Int)
 |i,u=>by
  by_cases a:u=0
  .subst a;rw[jP];simp
  .have b:0<u:=bq a
   rw[nU b]
   match i with
   |0=>simp
   |i+1=>
    rw[eA,Ca i (u/1000000000),eX,bM,cd]
def S6(i):(1000000000:Nat)^i=10^(9*i):=by
 rw[Nat.pow_mul]
def Dd(u):nDigits u<=9*(ip u).length\/u=0:=by
 obtain h|h:=cM u
 .exact Or.inr h
 .left
  have:=sb u;rw[S6]at this
  exact mJ this (by
   obtain e|e:=cM (ip u).length
   .have:=jC.1 e;omega
   .omega)
def De(z:Int):List UInt8:=(if z<0 then[45]else[])++decDigits z.natAbs
section
variable{P:Program}{ops:Array Oper}{Q:Exit->Act->World->Prop}{md:Region.Mode}
def Pb(P:Program)(md:Region.Mode)(ops:Array Oper)(Q:Exit->Act->World->Prop)(n:Nat):Nat->Array Bool->Act->World->Prop
 |0,listed,a,w=>Region.ready md ops listed=[]/\Q .normal a w
 |fuel+1,listed,a,w=>
  (Region.ready md ops listed=[]->Q .normal a w)/\
  ∀i∈Region.ready md ops listed,wpOp P ops Q i (fun a' w'=>(i<n->Below w w w')/\Pb P md ops Q n fuel (listed.setIfInBounds i true) a' w') a w
def vg{n:Nat}:∀(fuel:Nat)(b:Array Bool)(a:Act)(w:World),Pb P md ops Q n fuel b a w->wpAny P md ops Q fuel b a w
 |0,_,_,_,h=>h
 |fuel+1,_,_,_,h=>⟨h.1,fun i hi=>wpOp_mono (fun a' w' c=>vg fuel _ a' w' c.2) (h.2 i hi)⟩
def YieldsIf.stay{o:Oper}{v:Value}{a:Act}{w w':World}(h:YieldsIf P ops (fun x=>Below w w x) o v a)(b:Below w w w'):
 YieldsIf P ops (fun x=>Below w' w' x) o v a:=
 h.imp (fun⟨h1,h2⟩=>⟨h1,fun x c=>h2 x (b.trans (c.mono b.size))⟩) id
def J4{n i:Nat}{q:Oper}{v:Value}(hi:ops[i]? =some q)(t:∀(j:Nat)(o:Oper) cs b,ops[j]? =some o->o.op≠ .select cs b)
 (hs:Region.sinkB md ops n=true)(S:Region.chainB md ops n=true)(X:n<ops.size)(K:i<n)
 (N:∀c a w,Q (.panic c) (a.put q.dst v) w->Q (.panic c) a w):
 ∀(fuel:Nat)(d:Array Bool)(a:Act)(w:World),HeadInv md ops n d->
  (∀j r,ops[j]? =some r->j≠i->d.getD j true=false->(∀e∈r.after,Region.binds md e=true->e.on≠i)->q.apart ops r=true)->
  i∈Region.ready md ops d->YieldsIf P ops (fun x=>Below w.heap.size w x) q v a->
  Pb P md ops Q n fuel (d.setIfInBounds i true) (a.put q.dst v) w->Pb P md ops Q n (fuel+1) d a w:=by
 intro fuel
 induction fuel with
 |zero=>
  intro d a w _ _ p B H;refine⟨fun h=>(by rw[h]at p;cases p),fun j u=>?_⟩
  by_cases f:j=i
  .subst f;exact B.wpOp hi (TH _ _) ⟨fun _=>TH _ _,H⟩
  .have:=ready_mono u f
   rw[H.1]at this;cases this
 |succ fuel ih=>
  intro d a w E g p B H;have m:=(mem_ready.1 p).1;refine⟨fun h=>(by rw[h]at p;cases p),fun j u=>?_⟩
  have D:j<n:=by
   obtain h|h:=dC j n
   .exact h
   .exact absurd u (tail_waits hs S X E _ i rfl K m j h)
  by_cases f:j=i
  .subst f;exact B.wpOp hi (TH _ _) ⟨fun _=>TH _ _,H⟩
  .have h1:=H.2 j (ready_mono u f)
   obtain⟨s,r,y,z⟩:=mem_ready.1 u
   have A:∀e∈r.after,Region.binds md e=true->e.on≠i:=fun e T R F=>by
    have h1:=z e T R;rw[F,getD_both m]at h1;cases h1
   have h2:=wpOp_putIf y (g j r y f s A) (fun cs b=>t i q cs b hi) (fun cs b=>t j r cs b y) N B h1
   have l:∀k ok,ops[k]? =some ok->k≠i->(d.setIfInBounds j true).getD k true=false->
    (∀e∈ok.after,Region.binds md e=true->e.on≠i)->q.apart ops ok=true:=fun k ok W L m M=>by
    refine g k ok W L ?_ M
    by_cases C:j=k
    .subst C;exact s
    .rw[getD_set_ne true C]at m;exact m
   refine wpOp_mono (fun a' w' h3=>⟨h3.2.1,ih (d.setIfInBounds j true) a' w' (E.set u D) l (ready_mono p (fu f)) (YieldsIf.stay h3.1 (h3.2.1 D)) ?_⟩) h2;rw[cC _ _ f];exact h3.2.2
def vN(md:Region.Mode)(ops:Array Oper)(n:Nat):List (Nat×Bool)->Array Bool->Bool
 |[],listed=>Region.seqB md ops (ops.size-n) n listed
 |(i,t)::rest,listed=>(if t then(Region.ready md ops listed).contains i&&Region.free md ops listed i else decide (Region.ready md ops listed=[i]))&&decide (i<n)&&vN md ops n rest (listed.setIfInBounds i true)
def tA(P:Program)(ops:Array Oper)(Q:Exit->Act->World->Prop)(n:Nat):List (Nat×Bool)->Act->World->Prop
 |[],a,w=>wpList P ops Q (ops.toList.drop n) a w
 |(i,true)::rest,a,w=>∃o v,ops[i]? =some o/\YieldsIf P ops (fun x=>Below w.heap.size w x) o v a/\(∀c a w,Q (.panic c) (a.put o.dst v) w->Q (.panic c) a w)/\tA P ops Q n rest (a.put o.dst v) w
 |(i,false)::rest,a,w=>wpOp P ops Q i (fun a' w'=>Below w.heap.size w w'/\tA P ops Q n rest a' w') a w
def vh{n:Nat}{Q':Exit->Act->World->Prop}:∀(l:List Oper)(k:Nat)(b:Array Bool)(a:Act)(w:World),n<=k->(∀j,l[j]? =ops[k+j]?)->
 Region.seqB md ops l.length k b=true->wpList P ops Q' l a w->Pb P md ops Q' n l.length b a w
 |[],_,_,_,_,_,_,hB,h=>⟨by simpa[Region.seqB]using hB,h⟩
 |o::l,k,b,a,w,hk,hl,hB,h=>by
  have h0:ops[k]? =some o:=by simpa using(hl 0).symm
  simp only[aH,Region.seqB,am,aD]at hB;refine⟨fun h1=>(by rw[hB.1]at h1;cases h1),fun i hi=>?_⟩;rw[hB.1]at hi
  have c:i=k:=by simpa using hi
  subst c
  have hw:wpOp P ops Q' i (wpList P ops Q' l) a w:=by unfold wpOp;simp only[h0];exact h
  exact wpOp_mono (fun a' w' d=>⟨fun hlt=>absurd hlt (by omega),vh l (i+1) _ a' w' (by omega) (fun j=>by have:=hl (j+1);simpa[cN,fA 1 j]using this) hB.2 d⟩) hw
def vi{n:Nat}(c:Region.noSelect ops=true)(k:Region.sinkB md ops n=true)(f:Region.chainB md ops n=true)(g:n<ops.size):
 ∀(ord:List (Nat×Bool))(b:Array Bool)(a:Act)(w:World),HeadInv md ops n b->vN md ops n ord b=true->tA P ops Q n ord a w->
  Pb P md ops Q n (ord.length+(ops.size-n)) b a w
 |[],b,a,w,_,hB,h=>by
  have:=vh (md:=md) (n:=n) (Q':=Q) (ops.toList.drop n) n b a w (aa _) (fun j=>by simp[cp]) (by simpa[vN]using hB) h;simpa using this
 |(i,true)::rest,b,a,w,inv,hB,h=>by
  obtain⟨o,v,p,r,q,h⟩:=h;simp only[vN,bX,am,aD]at hB;obtain⟨⟨⟨h1,h2⟩,h3⟩,e⟩:=hB
  have d:i∈Region.ready md ops b:=by simpa using h1
  have:=J4 p (Region.noSelect_spec c) k f g h3 q _ b a w inv (Region.free_spec p h2) d r (vi c k f g rest _ _ w (inv.set d h3) e h);rw[aH,show rest.length+1+(ops.size-n)=rest.length+(ops.size-n)+1 by omega];exact this
 |(i,false)::rest,b,a,w,inv,hB,h=>by
  simp only[vN,bC,de,am,aD]at hB;obtain⟨⟨h1,h3⟩,e⟩:=hB
  have d:i∈Region.ready md ops b:=by rw[h1];simp
  rw[aH,show rest.length+1+(ops.size-n)=rest.length+(ops.size-n)+1 by omega];refine⟨fun h0=>(by rw[h0]at h1;cases h1),fun j m=>?_⟩;rw[h1]at m
  obtain rfl:j=i:=by simpa using m
  exact wpOp_mono (fun a' w' l=>⟨fun _=>l.1,vi c k f g rest _ a' w' (inv.set d h3) e l.2⟩) h
def wP(md:Region.Mode)(ops:Array Oper)(n:Nat)(ord:List (Nat×Bool)):Bool:=
 Region.noSelect ops&&decide (n<ops.size)&&decide (ord.length=n)&&Region.sinkB md ops n&&Region.chainB md ops n&&vN md ops n ord (Array.replicate ops.size false)
def gS{id:Nat}{a:Act}{w:World}(n:Nat)(ord:List (Nat×Bool))(g:P.follows .mixedOrders=true)(e:wP .any ops n ord=true)
 (h:tA P ops Q n ord a w.drew):(Code.region id ops true).wp P Q a w:=by
 simp only[wP,am,aD]at e;obtain⟨⟨⟨⟨⟨c,i⟩,b⟩,l⟩,f⟩,k⟩:=e
 have d:HeadInv .any ops n (Array.replicate ops.size false):=
  ⟨by simp,fun j o _ b=>(by rw[getD_replicate_false]at b;cases b),fun t _ m=>getD_in (by simpa using m) (getD_replicate_false _ _)⟩
 have:=vi (P:=P) (Q:=Q) c l f i ord _ a w.drew d k h;rw[b,show n+(ops.size-n)=ops.size by omega]at this;exact wp_region_any g (vg _ _ _ _ this)
def gU{n i:Nat}{b:List (Nat×Bool)}{o:Oper}{v:Value}{a:Act}{w:World}(hi:ops.toList[i]? =some o)(d:∀c a w,Q (.panic c) (a.put o.dst v) w->Q (.panic c) a w)
 (hw:Region.wanted o (yielded ops a.tmps)=true)(e:∀x,Below w.heap.size w x->(execOp a.eval o).run P x=.ok (.value v) x)
 (h:tA P ops Q n b (a.put o.dst v) w):tA P ops Q n ((i,true)::b) a w:=
 ⟨o,v,by rw[<- bc];exact hi,Or.inl ⟨hw,e⟩,d,h⟩
def Gq{n i:Nat}{b:List (Nat×Bool)}{o:Oper}{a:Act}{w:World}(hi:ops.toList[i]? =some o)(d:∀c a w,Q (.panic c) (a.put o.dst undef) w->Q (.panic c) a w)
 (hw:Region.wanted o (yielded ops a.tmps)=false)
 (h:tA P ops Q n b (a.put o.dst undef) w):tA P ops Q n ((i,true)::b) a w:=
 ⟨o,undef,by rw[<- bc];exact hi,Or.inr ⟨hw,rfl⟩,d,h⟩
def gP{n i:Nat}{b:List (Nat×Bool)}{o:Oper}{a:Act}{w:World}(hi:ops.toList[i]? =some o)(c:o.guard=none)
 (h:∀K:Act->World->Prop,(∀a' w',Below w w w'->tA P ops Q n b a' w'->K a' w')->o.wp P a w K Q):tA P ops Q n ((i,false)::b) a w:=by
 have hw:Region.wanted o (yielded ops a.tmps)=true:=by simp[Region.wanted,c]
 rw[bc]at hi
 show wpOp P ops Q i _ a w
 unfold wpOp;simp only[hi,hw,bX];exact .inl (h _ fun a' w' h1 h2=>⟨h1,h2⟩)
def iu{n:Nat}{a:Act}{w:World}{l:List Oper}(b:ops.toList.drop n=l)(h:wpList P ops Q l a w):tA P ops Q n [] a w:=by
 subst b;exact h
end
def SL(N:Nat)(w:World)(a:Option Addr)(n c:Nat)(zs:List Int):Prop:=
 n=zs.length/\n<=c/\(0<n-> ∃b off,a=some ⟨b,off,none⟩/\b<N/\ ∀j,j<n->w.cell? ⟨b,off+j,none⟩=some (.int .i64 (zs.getD j 0)))
def SL.len{N w a n c zs}(h:SL N w a n c zs):n=zs.length:=h.1
def SL.at{N w a n c zs}(h:SL N w a n c zs)(d:0<n):∃b off,a=some ⟨b,off,none⟩/\b<N/\ ∀j,j<n->w.cell? ⟨b,off+j,none⟩=some (.int .i64 (zs.getD j 0)):=h.2.2 d
def SL.cap{N w a n c zs}(h:SL N w a n c zs):n<=c:=h.2.1
def SL.below{N M w w' a n c zs}(h:SL N w a n c zs)(f:Below M w w')(d:N<=M):SL N w' a n c zs:=
 ⟨h.1,h.2.1,fun i=>let⟨b,off,e,hlt,hc⟩:=h.2.2 i;⟨b,off,e,hlt,fun j g=>(f.cell (p:=⟨b,off+j,none⟩) (ab hlt d)).trans (hc j g)⟩⟩
def SL.mono{N M w a n c zs}(h:SL N w a n c zs)(d:N<=M):SL M w a n c zs:=
 ⟨h.1,h.2.1,fun f=>let⟨b,off,e,hlt,hc⟩:=h.2.2 f;⟨b,off,e,ab hlt d,hc⟩⟩
def SL.go{w w' a n c zs}(h:SL w.heap.size w a n c zs)(b:Below w.heap.size w w'):SL w'.heap.size w' a n c zs:=
 (h.below b (aa _)).mono b.size
def SL.nil(N w a c):SL N w a 0 c []:=⟨rfl,aA _,fun h=>absurd h (by omega)⟩
def mO(w:World)(g:Nat)(cs:List Value)(t:TypeId):Prop:=∃a:List Value,w.heap[g]? =some (.cells (cs++a).toArray t (0,0))
def mO.lt{w g cs t}(h:mO w g cs t):g<w.heap.size:=let⟨_,h⟩:=h;TK h
def mO.cell{w g cs t}(h:mO w g cs t){j}(a:j<cs.length):w.cell? ⟨g,j,none⟩=some cs[j]:=by
 obtain⟨r,h⟩:=h;simp[World.cell?,h,aF a,ae a]
def mO.free{w g cs t}(h:mO w g cs t)(j):w.frozen? ⟨g,j,none⟩=false:=by
 obtain⟨r,h⟩:=h;simp[World.frozen?,h]
def mO.below{w w' g cs t B}(h:mO w g cs t)(a:Below B w w')(b:g<B):mO w' g cs t:=let⟨r,h⟩:=h;⟨r,(a.block g b).trans h⟩
def mO.set{w g cs t}(h:mO w g cs t)(j)(b:j<cs.length)(v):mO (w.setCell ⟨g,j,none⟩ v) g (cs.set j v) t:=by
 have hlt:=h.lt;obtain⟨r,h⟩:=h
 have a:w.heap[g]=.cells (cs++r).toArray t (0,0):=by simpa[dH hlt]using h
 refine⟨r,?_⟩
 show(w.heap.modify g _)[g]? =_
 rw[dH (by simpa using hlt),fW,a];simp[b]
def mO.other{w g cs t}(h:mO w g cs t)(p)(a:p.block≠g)(v):mO (w.setCell p v) g cs t:=
 let⟨r,h⟩:=h;⟨r,by rw[TI _ _ _ _ (fun e=>a e.symm)];exact h⟩
def vO(w:World)(g:Nat)(zs:List Int):Prop:=mO w g (zs.map (Value.int .i64)) 3
def vO.lt{w g zs}(h:vO w g zs):g<w.heap.size:=mO.lt h
def vO.cell{w g zs}(h:vO w g zs){j}(a:j<zs.length):w.cell? ⟨g,j,none⟩=some (.int .i64 (zs.getD j 0)):=by
 have:=mO.cell h (j:=j) (by simpa using a);simpa[ah,ae a]using this
def vO.free{w g zs}(h:vO w g zs)(j):w.frozen? ⟨g,j,none⟩=false:=mO.free h j
def vO.below{w w' g zs B}(h:vO w g zs)(a:Below B w w')(b:g<B):vO w' g zs:=mO.below h a b
def vO.set{w g zs}(h:vO w g zs)(j)(a:j<zs.length)(v):vO (w.setCell ⟨g,j,none⟩ (.int .i64 v)) g (zs.set j v):=by
 have:=mO.set h j (by simpa using a) (.int .i64 v);unfold vO;rw[List.map_set];exact this
def vO.sl{w g zs}(h:vO w g zs){c}(a:zs.length<=c):SL w.heap.size w (J g) zs.length c zs:=
 ⟨rfl,a,fun _=>⟨g,0,rfl,h.lt,fun j b=>by rw[aV];exact h.cell b⟩⟩
def vO.drew{w g zs}(h:vO w g zs)(k):vO (w.drewN k) g zs:=h
def gV{B a w}(h:Below B a w)(n):Below B a (w.drewN n):=h.trans ⟨rfl,rfl,rfl,aa _,fun _ _=>rfl⟩
def gJ{B w w' k}(h:Below B (w.drewN k) w'):Below B w w':=⟨h.os,h.tape,h.output,h.size,h.block⟩
def rp{w w':World}(a:Below w w w'):(∀b o,b<w.heap.size->w'.cell? ⟨b,o,none⟩=w.cell? ⟨b,o,none⟩)/\(∀b o,b<w.heap.size->w'.frozen? ⟨b,o,none⟩=w.frozen? ⟨b,o,none⟩):=
 ⟨fun b o h=>a.cell (p:=⟨b,o,none⟩) h,fun b o h=>a.frozen (p:=⟨b,o,none⟩) h⟩
def kS(B:Nat)(a:Option Addr)(n:Nat):Prop:=∀b off,a=some ⟨b,off,none⟩->0<n->B<=b
def kS.zero(B a):kS B a 0:=fun b off _ h=>absurd h (by omega)
def kS.mk{B g off}(h:B<=g)(n):kS B (some ⟨g,off,none⟩) n:=fun b o e _=>by cases e;exact h
def kS.mono{B c a n}(h:kS B a n)(d:c<=B):kS c a n:=fun b off e h0=>af d (h b off e h0)
def SL.setCell{N w a n c zs}(h:SL N w a n c zs)(p u)(d:∀b off,a=some ⟨b,off,Option.none⟩->0<n->b≠p.block):SL N (w.setCell p u) a n c zs:=by
 refine⟨h.1,h.2.1,fun h0=>?_⟩;obtain⟨b,off,e,hlt,g⟩:=h.2.2 h0;have f:=d b off e h0;exact⟨b,off,e,hlt,fun j i=>by rw[World.cell?_setCell_other _ _ _ _ (fun e=>f (ai Addr.block e).symm)];exact g j i⟩
def QE(w:World)(v:Value)(e:Ending)(w':World):Prop:=e=.returned v/\ ∃k,w'=w.drewN k
def iZ(w:World)(v:Value)(e:Ending)(w':World):Prop:=e=.returned v/\Below w w w'
def Tryz.infoInt:(prog.info? 3).map (fun i=>(i.zero,i.size,i.bytes))=some (some (.int .i64 0),1,8):=by kernel_rfl
def sd{t z s b}(h:(prog.info? t).map (fun i=>(i.zero,i.size,i.bytes))=some (some z,s,b)):
 ∃i,prog.info? t=some i/\i.zero=some z/\i.size=s/\i.bytes=b:=by
 cases hi:prog.info? t with
 |none=>rw[hi]at h;cases h
 |some i=>rw[hi]at h;simp at h;exact⟨i,rfl,h.1,h.2.1,h.2.2⟩
def MB(n):madeCells (Value.int .i64 0).cells n=((List.replicate n (0:Int)).map (Value.int .i64)).toArray:=by
 apply Array.ext
 .simp[madeCells]
 .intro i h1 h2
  simp[madeCells,Value.cells,Nat.mod_one]
def oE{w:World}{ops b o a}{Q:Exit->Act->World->Prop}(m:o.guard=none)(l c t)(e:o.op=Op.makeSlice t l c)(r:prog.underlying t=some (.slice 3))(L)(n:Nat)(p:a.eval l=.int .i64 L)(k:a.eval c=.int .i64 L)(h:L=(n:Int))(u:n<=10000000000000)(g:∀w',vO w' w (List.replicate n 0)->Below w w w'->wpList prog ops Q b (a.put o.dst (.slice (J (w.heap.size)) n n)) w'):
 wpList prog ops Q (o::b) a w:=by
 refine eT m fun K d=>?_
 obtain⟨i,hi,s,q,j⟩:=sd Tryz.infoInt;subst h;have f:=run_make (P:=prog) w t 3 i _ r hi s .i64 .i64 (n:Int) (n:Int) (by omega) (by omega) (by rw[j];omega) (by omega);rw[q,aI,dn,MB]at f;unfold Oper.wp;simp[execOp,e,p,k,f,Result.andThen];refine d _ _ (g _ ?_ ((TH _ _).alloc (aa _) _));refine⟨[],?_⟩;rw[TL];simp
def mz{w base t size v n xs}(h:w.ownsRow base t size v n xs):
 xs.length=n*size/\((v=.slice none 0 0/\n=0)\/ ∃g cap,v=.slice (J g) n cap/\base<=g/\n<=cap/\mO w g xs t):=by
 refine⟨h.1,h.2.imp id ?_⟩;rintro⟨g,cap,a,rfl,b,d,c,_,_,e⟩;refine⟨g,cap,rfl,b,c,a.toList.drop (n*size),?_⟩;rw[d,<- e,cA]
def mS{w ops d o a}{Q:Exit->Act->World->Prop}(g:o.guard=none)(s x t)(y:o.op=.call {callee:=.builtin .append,args:=#[s,x],argTypes:=#[t,t]})(base e z size bytes)(ht:prog.underlying t=some (.slice e))(hi:(prog.info? e).map (fun i=>(i.zero,i.size,i.bytes))=some (some z,size,bytes))(hzs:z.cells.size=size)(hsz:0<size)(v n xs)(hs:a.eval s=v)(hown:w.ownsRow base e size v n xs)(sp m c news)(hx:a.eval x=.slice sp m c)(hl:news.length=m*size)(hnews:0<m-> ∃b off,sp=some ⟨b,off,none⟩/\ ∀j u,news[j]? =some u->w.cell? ⟨b,off+j,none⟩=some u)(h1:∀u∈news,u.oneCell'=true)(hmn:sp=none->m=0/\c=0)(hb:(n+m)*bytes<=140737488355328)(hb2:n+m<=140737488355328)(hbase:base<=w.heap.size)(h:∀f w',w'.ownsRow base e size f (n+m) (xs++news)->w.grownBy w' v.ownBlock->wpList prog ops Q d (a.put o.dst f) w'):
 wpList prog ops Q (o::d) a w:=by
 obtain⟨i,k,p,q,r⟩:=sd hi
 cases sp with
 |none=>
  obtain⟨rfl,rfl⟩:=hmn rfl;obtain rfl:news=[]:=ec (by simpa using hl);refine wpList_append_own_none g s x t y base e i size ht k v n xs hs hown hx ?_;exact h v w (by simpa using hown) ⟨rfl,rfl,rfl,aa _,fun _ _ _=>rfl⟩
 |some A=>
  refine wpList_append_own w g s x t y base e i z size bytes ht k p q r hzs hsz v n xs hs hown A m c news hx hl ?_ h1 (by unfold maxLen;omega) hb hbase (fun f w' h2 h3 _=>h f w' h2 h3);intro j u l
  by_cases D:0<m
  .obtain⟨b,off,C,B⟩:=hnews D
   obtain rfl:=aE C;have:=B j u l;unfold Addr.add
   by_cases h0:j=0
   .subst h0;simpa using this
   .simpa[h0]using this
  .have:news.length=0:=by rw[hl,show m=0 by omega];simp
   rw[ec this]at l;simp at l
def ju{w ops d o a}{Q:Exit->Act->World->Prop}(p:o.guard=none)(s x t)(y:o.op=.call {callee:=.builtin .append,args:=#[s,x],argTypes:=#[t,t]})(ht:prog.underlying t=some (.slice 3))(base v n zs)(hs:a.eval s=v)(hown:w.ownsRow base 3 1 v n (zs.map (Value.int .i64)))(N sp m c xs)(hx:a.eval x=.slice sp m c)(hsl:SL N w sp m c xs)(hmn:sp=none->c=0)(hb:n+m<=10000000000000)(hbase:base<=w.heap.size)(h:∀i w',w'.ownsRow base 3 1 i (n+m) ((zs++xs).map (Value.int .i64))->w.grownBy w' v.ownBlock->wpList prog ops Q d (a.put o.dst i) w'):
 wpList prog ops Q (o::d) a w:=by
 refine mS p s x t y base 3 (.int .i64 0) 1 8 ht Tryz.infoInt (by simp[Value.cells]) (by omega) v n _ hs hown sp m c (xs.map (Value.int .i64)) hx (by simp[hsl.len]) ?_ (by simp[Value.oneCell']) ?_ (by omega) (by omega) hbase ?_
 .intro r
  obtain⟨b,off,e,_,q⟩:=hsl.2.2 r;refine⟨b,off,e,fun j u f=>?_⟩
  have k:j<xs.length:=by
   apply bg;intro g
   rw[bz (by simp;omega)]at f;cases f
  have:=q j (by have:=hsl.len;omega);rw[aR,ae k]at f;simp at f;subst f;rw[this,ah,ae k];rfl
 .intro e
  refine⟨?_,hmn e⟩
  apply bg;intro g
  obtain⟨b,off,l,_⟩:=hsl.2.2 (by omega);rw[e]at l;cases l
 .intro i w' h2 h3
  rw[<- aT]at h2;exact h i w' h2 h3
def mA{w a:World}{o}(b:Below (w.alloc o).heap.size (w.alloc o) a):Below w w a:=
 ((TH _ _).alloc (aa _) _).trans (b.mono (by simp))
def SL.alloc{w:World}{a n c zs}(h:SL w w a n c zs)(o):SL (w.alloc o).heap.size (w.alloc o) a n c zs:=
 h.go ((TH _ _).alloc (aa _) _)
def SL.one(w:World)(x:Int)(t):SL (w.alloc (.cells #[x] t)).heap.size (w.alloc (.cells #[x] t)) (J (w.heap.size)) 1 1 [x]:=
 ⟨rfl,aa _,fun _=>⟨w.heap.size,0,rfl,by simp,fun j a=>by
   obtain rfl:j=0:=by omega
   exact World.cell?_alloc_at _ _ _ _ rfl⟩⟩
def kx{w:World}{base t size v n xs}(h:w.ownsRow base t size v n xs):∃a c,v=.slice a n c:=by
 obtain ⟨rfl,rfl⟩|⟨g,cap,b,rfl,_⟩:=h.2
 .exact⟨_,_,rfl⟩
 .exact⟨_,_,rfl⟩
def ur{w:World}{base t a n c zs}(h:w.ownsRow base t 1 (.slice a n c) n (zs.map (Value.int .i64))):SL w w a n c zs:=by
 have d:=h.1;simp at d
 rcases(mz h).2 with⟨e,rfl⟩|⟨g,cap,e,_,f,b⟩
 .cases ec d
  exact SL.nil _ _ _ _
 .injection e with e1 e2 e3
  subst e1 e3;refine⟨d.symm,f,fun _=>⟨g,0,rfl,b.lt,fun j i=>?_⟩⟩;rw[aV,b.cell (by simp;omega)];simp[ah,ae (show j<zs.length by omega)]
def jI{w w':World}{o base t size v n xs}(a:w.ownsRow base t size v n xs)(d:(w.alloc o).grownBy w' v.ownBlock){b}(f:b<base)(c:base<=w.heap.size):w'.heap[b]? =w.heap[b]? :=by
 rw[d.block b (by simp;omega) (fun e=>by have:=(a.lt b e.symm).1;omega),TJ _ _ _ (by omega)]
def jF{w0 w w' o base B t size v n xs}(c:Below B w0 w)(a:w.ownsRow base t size v n xs)(d:(w.alloc o).grownBy w' v.ownBlock)(f:B<=base)(b:base<=w.heap.size):Below B w0 w':=
 (c.alloc (by omega) o).grown d (by simp;omega) (fun k e=>by have:=(a.lt k e).1;omega)
def gG{w:World}{b cs t}(h:w.heap[b]? =some (.cells cs t (0,0)))(i u):
 (w.setCell ⟨b,i,none⟩ u).heap[b]? =some (.cells (cs.setIfInBounds i u) t (0,0)):=by
 have hlt:=TK h
 have a:w.heap[b]=.cells cs t (0,0):=by simpa[dH hlt]using h
 show(w.heap.modify b _)[b]? =_
 rw[dH (by simpa using hlt),fW,a];rfl
def gF{w:World}{b o}(h:w.heap[b]? =some o)(p)(a:p.block≠b)(u):(w.setCell p u).heap[b]? =some o:=
 (TI _ _ _ _ (fun e=>a e.symm)).trans h
def rH(l:List Int)(i j v):(l.set i v).getD j 0=if i=j/\i<l.length then v else l.getD j 0:=by
 simp only[ah,cF]
 by_cases h:i=j
 .subst h
  by_cases h2:i<l.length
  .simp[h2]
  .simp[h2]
 .simp[h]
def P1(xs ys:List Int)(n k:Nat)(a:List Int):Prop:=
 a.length=n+1/\(∀j,0<=a.getD j 0/\a.getD j 0<=1999999998)/\(∀j,k<=j->a.getD j 0<1000000000)/\a.getD n 0=0/\val a=val xs+val (ys.take k)
def P2(v:Int)(n k:Nat)(a:List Int):Prop:=
 a.length=n+1/\(∀j,0<=a.getD j 0/\a.getD j 0<=1999999999)/\(∀j,j<k->a.getD j 0<1000000000)/\(∀j,k<j->a.getD j 0<=1999999998)/\
  (k<n->a.getD n 0=0)/\(k=n->a.getD n 0<=1)/\val a=v
def T1(xs ys:List Int)(i:Nat)(a:List Int):Prop:=
 a.length=xs.length+ys.length/\(∀j,0<=a.getD j 0/\a.getD j 0<1000000000)/\(∀j,i+ys.length<=j->a.getD j 0=0)/\val a=val (xs.take i)*val ys
def T2(xs ys:List Int)(i k:Nat)(a:Int)(b:List Int):Prop:=
 b.length=xs.length+ys.length/\(∀j,0<=b.getD j 0/\b.getD j 0<1000000000)/\(∀j,i+ys.length<=j->b.getD j 0=0)/\0<=a/\a<1000000000/\
  val b+a*1000000000^(i+k)=val (xs.take i)*val ys+xs.getD i 0*val (ys.take k)*1000000000^i
def vj{x y:Int}(c:0<=x/\x<1000000000)(b:0<=y/\y<1000000000):0<=x*y/\x*y<=999999998000000001:=by
 refine⟨eH c.1 b.1,?_⟩;have a:x*y<=999999999*y:=bB (by omega) b.1;omega
def LG(N:Nat)(w:World)(s:Bool)(a:Option Addr)(n c:Nat)(z:Int):Prop:=
 s=decide (z<0)/\SL N w a n c (ip z.natAbs)/\n<=600
def LG.mono{N M w s a n c z}(h:LG N w s a n c z)(b:N<=M):LG M w s a n c z:=⟨h.1,h.2.1.mono b,h.2.2⟩
def LG.go{w w' s a n c z}(h:LG w.heap.size w s a n c z)(b:Below w.heap.size w w'):LG w'.heap.size w' s a n c z:=⟨h.1,h.2.1.go b,h.2.2⟩
def S3(w:World)(z:Int)(e:Ending)(w':World):Prop:=
 ∃s a n c,e=.returned (.tuple #[.agg #[.bool s,Z a n c],oZ])/\LG w' w' s a n c z/\Below w w w'/\kS w a n
def LG.setCell{N w s a n c z}(h:LG N w s a n c z)(p u)(d:∀b off,a=some ⟨b,off,none⟩->0<n->b≠p.block):LG N (w.setCell p u) s a n c z:=
 ⟨h.1,h.2.1.setCell p u d,h.2.2⟩
def tb(w:World)(z:Int)(e:Ending)(w':World):Prop:=
 ∃s a n c,e=.returned (.agg #[.bool s,Z a n c])/\LG w' w' s a n c z/\Below w w w'/\kS w a n
def xB{k}(h:k<0):k.tmod 1000000000= -((-k)%1000000000):=by
 rw[show k.tmod 1000000000= -((-k).tmod 1000000000)by rw[Int.neg_tmod];omega,bu (by omega)]
def xC{k}(h:k<0):k.tdiv 1000000000= -((-k)/1000000000):=by
 rw[show k.tdiv 1000000000= -((-k).tdiv 1000000000)by rw[Int.neg_tdiv];omega,bL (by omega)]
def iN(w:World)(o p):((w.alloc o).alloc p).heap[w.heap.size]? =some o/\((w.alloc o).alloc p).heap[w.heap.size+1]? =some p:=by
 constructor
 .rw[TJ _ _ _ (by simp)];exact TL _ _
 .have:=TL (w.alloc o) p
  simpa using this
def nu(n)(h1: -9223372036854775808<=n)(h2:n<=9223372036854775807):(ip n.natAbs).length<=3:=
 iB (by simp;omega)
def oF(w:World)(o p q):Below w w (((w.alloc o).alloc p).alloc q):=(((TH _ _).alloc (aa _) _).alloc (by simp) _).alloc (by simp;omega) _
def iH{w:World}(o p):Below w w ((w.alloc o).alloc p):=((TH _ _).alloc (aa _) _).alloc (by simp) _
def oG(x y:Int):Int:=if x<y then -1 else if y<x then 1 else 0
def gA{w:World}{b cs T}(h:w.heap[b]? =some (.cells cs T (0,0)))(i):w.cell? ⟨b,i,none⟩=cs[i]? :=by simp[World.cell?,h]
def gD{w:World}{b cs T}(h:w.heap[b]? =some (.cells cs T (0,0)))(i):w.frozen? ⟨b,i,none⟩=false:=by simp[World.frozen?,h]
end Go.Proofs.YtgohdcccfkjooaaGreatDoor
