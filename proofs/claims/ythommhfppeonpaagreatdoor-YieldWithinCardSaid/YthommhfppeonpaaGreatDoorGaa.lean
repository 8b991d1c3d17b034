/-
  DERIVED. Several texts in one: Args, Num, Region, Base, SizeA, SizeB, SizeC, SizeD, LongA, LongB, LongC.
-/
import Derived.Test.YthommhfppeonpaaGreatDoorRows
import Derived.WalkKit
import Derived.ProofKit
import Derived.OpenShut
import Derived.OrdersHeld
import Derived.StillTail
import Derived.WalkSpells
import Derived.WalkLawsBesides
import Derived.BigQuiet
import Derived.Lib.Hide
import Derived.OwnWalk
import Derived.OneCell
import Derived.Laws.CopyOwn
import Derived.Laws.AppendOwnNone
import Derived.Deep.QuietTactic
import Derived.Deep.RegionWith
import Derived.Deep.DeepFit
namespace Go.Proofs.YthommhfppeonpaaGreatDoor
open Go.ChangeShapes Go.WideShapes Go.ChangeAt Go.RowKit
variable {P : Program}

theorem ownKnob_none : ownKnob Tryz.prog.godebug = none := by kernel_rfl
theorem laidOut_all : laidOutB Tryz.prog = true := by kernel_rfl

/-- all arguments read behind the call as they did -/
theorem trodAll_below {H : Type} {enc : TypeId × Value → H} {W W' : World} (hb : Below W.heap.size W W') :
    ∀ (ts : List TypeId) (vs : List Value) (ds : List (DataW H)) (ps : List MemPlace), (∀ t ∈ ts, Tryz.prog.readableRec t = true ∧ t < Tryz.prog.types.size) → DataW.TrodAll enc Tryz.prog W 0 (fun _ => true) true ts vs ds ps →
      DataW.TrodAll enc Tryz.prog W' 0 (fun b => decide (b < W.heap.size)) true ts vs ds ps
  | [], vs, ds, ps, _, h => by
    obtain ⟨rfl, rfl, rfl⟩ := trodAll_nil h
    exact trodAll_mk0
  | t :: ts, vs, ds, ps, hr, h => by
    obtain ⟨v, vs', d, ds', p, q, rfl, rfl, rfl, h0, h1⟩ := trodAll_cons h
    refine trodAll_cons_mk (Below.trod laidOut_all (hr t (by simp)).1 (hr t (by simp)).2 h0 hb ?_) (trodAll_below hb ts vs' ds' q (fun u hu => hr u (by simp [hu])) h1)
    obtain ⟨m, hm⟩ := h0
    exact DataW.trod_lt m _ _ _ hm

theorem list2 {α : Type} {l : List α} (h : l.length = 2) : ∃ a b, l = [a, b] := by
  match l, h with
  | [a, b], _ => exact ⟨a, b, rfl⟩
theorem list3 {α : Type} {l : List α} (h : l.length = 3) : ∃ a b c, l = [a, b, c] := by
  match l, h with
  | [a, b, c], _ => exact ⟨a, b, c, rfl⟩
theorem all_of {ts : List TypeId} (h : ts.all (fun t => P.readableRec t && decide (t < P.types.size)) = true) : ∀ t ∈ ts, P.readableRec t = true ∧ t < P.types.size := by
  intro t ht
  have := List.all_eq_true.1 h t ht
  simpa using this

theorem wf_of_cell {t : TypeId} {k : IntKind} {W : World} {base : Nat} {v : Value} (ht : P.underlying t = some (.int k)) (h : Cell.okWide P W .any base t v) :
    ∃ n, v = .int k n ∧ k.has n := by
  unfold Cell.okWide at h
  rw [ht] at h
  unfold Cell.ok at h
  rw [ht] at h
  cases v <;> simp_all

/-- an array of integers -/
theorem okWide_arr {t e : TypeId} {k : IntKind} {n : Nat} {W : World} {base : Nat} {v : Value} (ht : P.underlying t = some (.array n e)) (hc : P.cellsOf t = n)
    (hct : P.cellTypes P.depth t = some (List.replicate n e)) (he : P.underlying e = some (.int k)) (h : Value.okWide P W .any base t v) :
    ∃ zs : List Int, v = .agg (zs.map (Value.int k)).toArray ∧ zs.length = n ∧ ∀ z ∈ zs, k.has z := by
  unfold Value.okWide at h
  rw [ht] at h
  obtain ⟨cs, rfl, hs, ts, hts, -, hcs⟩ := h
  rw [hct] at hts
  obtain rfl : List.replicate n e = ts := by simpa using hts
  have key : ∀ l : List Value, (∀ x ∈ l, ∃ z, x = .int k z ∧ k.has z) → ∃ zs : List Int, l = zs.map (Value.int k) ∧ zs.length = l.length ∧ ∀ z ∈ zs, k.has z := by
    intro l
    induction l with
    | nil => exact fun _ => ⟨[], rfl, rfl, fun z hz => by simp at hz⟩
    | cons x l ih =>
      intro hl
      obtain ⟨z, rfl, hz⟩ := hl x (by simp)
      obtain ⟨zs, rfl, h2, h3⟩ := ih (fun y hy => hl y (by simp [hy]))
      exact ⟨z :: zs, rfl, by simp, fun y hy => by
        simp at hy
        rcases hy with rfl | hy
        · exact hz
        · exact h3 y hy⟩
  obtain ⟨zs, h1, h2, h3⟩ := key cs.toList (fun x hx => by
    obtain ⟨i, hi, rfl⟩ := List.getElem_of_mem hx
    have hi' : i < cs.size := by simpa using hi
    obtain ⟨u, hu, hc2⟩ := hcs i cs.toList[i] (by simp)
    have hn : n ≠ 0 := by
      rw [hs, hc] at hi'
      exact Nat.ne_of_gt (Nat.lt_of_le_of_lt (Nat.zero_le _) hi')
    have hm : i % n < n := Nat.mod_lt _ (Nat.pos_of_ne_zero hn)
    rw [List.length_replicate, List.getElem?_replicate, if_pos hm] at hu
    simp at hu
    subst hu
    exact wf_of_cell he hc2)
  refine ⟨zs, ?_, by rw [h2]; simp [hs, hc], h3⟩
  rw [← h1]

end Go.Proofs.YthommhfppeonpaaGreatDoor

namespace Go.Proofs.YthommhfppeonpaaGreatDoor

/-- the base, behind a name -/
def BB : Int := 1000000000

theorem BB_eq : BB = 1000000000 := rfl
theorem BB_pos : (0 : Int) < BB := by rw [BB_eq]; omega

/-- the value of a list of digits -/
def val : List Int → Int
  | [] => 0
  | d :: l => d + 1000000000 * val l

/-- each one is a digit -/
def Dig (l : List Int) : Prop := ∀ j, j < l.length → 0 ≤ l.getD j 0 ∧ l.getD j 0 < 1000000000

theorem Dig.nil : Dig [] := fun j h => by simp at h
theorem Dig.head {d : Int} {l : List Int} (h : Dig (d :: l)) : 0 ≤ d ∧ d < 1000000000 := by simpa using h 0 (by simp)
theorem Dig.tail {d : Int} {l : List Int} (h : Dig (d :: l)) : Dig l := fun j hj => by simpa using h (j + 1) (by simpa using hj)
theorem Dig.cons {d : Int} {l : List Int} (hd : 0 ≤ d ∧ d < 1000000000) (h : Dig l) : Dig (d :: l) := fun j hj => by
  cases j with
  | zero => simpa using hd
  | succ j => simpa using h j (by simpa using hj)
theorem Dig.all {l : List Int} (h : Dig l) (j : Nat) : 0 ≤ l.getD j 0 ∧ l.getD j 0 < 1000000000 := by
  by_cases hj : j < l.length
  · exact h j hj
  · rw [List.getD_eq_getElem?_getD, List.getElem?_eq_none (by omega)]; simp
theorem Dig.append {l m : List Int} (hl : Dig l) (hm : Dig m) : Dig (l ++ m) := fun j _ => by
  by_cases hj : j < l.length
  · rw [List.getD_eq_getElem?_getD, List.getElem?_append_left hj, ← List.getD_eq_getElem?_getD]; exact hl j hj
  · rw [List.getD_eq_getElem?_getD, List.getElem?_append_right (by omega), ← List.getD_eq_getElem?_getD]; exact hm.all _
theorem Dig.take {l : List Int} (h : Dig l) (k : Nat) : Dig (l.take k) := fun j hj => by
  have hj2 : j < k := by have := List.length_take_le k l; omega
  have e : (l.take k).getD j 0 = l.getD j 0 := by simp [List.getD_eq_getElem?_getD, hj2]
  rw [e]; exact h.all j
theorem Dig.drop {l : List Int} (h : Dig l) (k : Nat) : Dig (l.drop k) := fun j _ => by
  have e : (l.drop k).getD j 0 = l.getD (k + j) 0 := by simp [List.getD_eq_getElem?_getD, List.getElem?_drop]
  rw [e]; exact h.all _

theorem val_nonneg {l : List Int} (h : Dig l) : 0 ≤ val l := by
  induction l with
  | nil => simp [val]
  | cons d l ih => have := h.head; have := ih h.tail; simp only [val]; omega

theorem val_append (l m : List Int) : val (l ++ m) = val l + 1000000000 ^ l.length * val m := by
  induction l with
  | nil => simp [val]
  | cons d l ih => simp only [List.cons_append, val, ih, List.length_cons, Int.pow_succ, Int.mul_add]; rw [Int.mul_comm (1000000000 ^ l.length) 1000000000, Int.mul_assoc]; omega

theorem val_lt {l : List Int} (h : Dig l) : val l < 1000000000 ^ l.length := by
  induction l with
  | nil => simp [val]
  | cons d l ih => have := h.head; have := ih h.tail; simp only [val, List.length_cons, Int.pow_succ]; omega

theorem val_replicate (n : Nat) : val (List.replicate n 0) = 0 := by
  induction n with
  | zero => rfl
  | succ n ih => simp only [List.replicate_succ, val, ih]; omega

theorem val_set {l : List Int} {i : Nat} (h : i < l.length) (v : Int) : val (l.set i v) = val l + (v - l.getD i 0) * 1000000000 ^ i := by
  induction l generalizing i with
  | nil => simp at h
  | cons d l ih =>
    cases i with
    | zero => simp only [List.set_cons_zero, val, List.getD_cons_zero, Int.pow_zero]; omega
    | succ i =>
      simp only [List.set_cons_succ, val, List.getD_cons_succ, ih (by simpa using h), Int.pow_succ]
      rw [← Int.mul_assoc, Int.mul_add, Int.mul_comm (_ * _) 1000000000]; omega

theorem val_take_succ {l : List Int} {k : Nat} (h : k < l.length) : val (l.take (k + 1)) = val (l.take k) + l.getD k 0 * 1000000000 ^ k := by
  have e : l.take (k + 1) = l.take k ++ [l.getD k 0] := by
    rw [List.take_add_one, List.getElem?_eq_getElem h]; simp [List.getD_eq_getElem?_getD, List.getElem?_eq_getElem h]
  rw [e, val_append, List.length_take, Nat.min_eq_left (by omega)]
  simp only [val, Int.mul_zero, Int.add_zero]; rw [Int.mul_comm]

theorem val_drop {l : List Int} {k : Nat} (h : k < l.length) : val (l.drop k) = l.getD k 0 + 1000000000 * val (l.drop (k + 1)) := by
  rw [List.drop_eq_getElem_cons h]; simp [val, List.getD_eq_getElem?_getD, List.getElem?_eq_getElem h]

/-- the digits of a number -/
def digs (n : Nat) : List Int := if n = 0 then [] else ((n % 1000000000 : Nat) : Int) :: digs (n / 1000000000)
termination_by n
decreasing_by omega

theorem digs_zero : digs 0 = [] := by rw [digs]; simp
theorem digs_pos {n : Nat} (h : 0 < n) : digs n = ((n % 1000000000 : Nat) : Int) :: digs (n / 1000000000) := by rw [digs, if_neg (by omega)]

theorem dig_digs (n : Nat) : Dig (digs n) := by
  induction n using Nat.strongRecOn with
  | _ n ih =>
    by_cases h : n = 0
    · subst h; rw [digs_zero]; exact Dig.nil
    · rw [digs_pos (by omega)]; exact Dig.cons (by omega) (ih _ (by omega))

theorem val_digs (n : Nat) : val (digs n) = n := by
  induction n using Nat.strongRecOn with
  | _ n ih =>
    by_cases h : n = 0
    · subst h; rw [digs_zero]; rfl
    · rw [digs_pos (by omega)]; simp only [val, ih _ (show n / 1000000000 < n by omega)]; omega

/-- no highest zero -/
def Top (l : List Int) : Prop := 0 < l.length → l.getD (l.length - 1) 0 ≠ 0

theorem top_digs (n : Nat) : Top (digs n) := by
  induction n using Nat.strongRecOn with
  | _ n ih =>
    by_cases h : n = 0
    · subst h; rw [digs_zero]; intro h; simp at h
    · rw [digs_pos (by omega)]
      intro _
      by_cases h2 : n / 1000000000 = 0
      · rw [h2, digs_zero]; simp; omega
      · have := ih _ (show n / 1000000000 < n by omega)
        rw [digs_pos (n := n / 1000000000) (by omega)] at this ⊢
        simpa using this (by simp)

theorem Top.tail {d : Int} {l : List Int} (h : Top (d :: l)) : Top l := by
  intro hl
  have := h (by simp)
  cases l with
  | nil => simp at hl
  | cons e l => simpa using this

theorem digs_val {l : List Int} (h : Dig l) (ht : Top l) : digs (val l).toNat = l := by
  induction l with
  | nil => simp only [val]; exact digs_zero
  | cons d l ih =>
    have h1 := h.head
    have h2 := val_nonneg h.tail
    have h3 := ih h.tail ht.tail
    have hp : 0 < (val (d :: l)).toNat := by
      simp only [val]
      by_cases h0 : d = 0
      · have : l ≠ [] := by rintro rfl; exact ht (by simp) (by simpa using h0)
        by_cases hv : val l = 0
        · rw [hv] at h3; rw [Int.toNat_zero, digs_zero] at h3; exact absurd h3.symm this
        · omega
      · omega
    rw [digs_pos hp]
    have e1 : (((val (d :: l)).toNat % 1000000000 : Nat) : Int) = d := by simp only [val]; omega
    have e2 : (val (d :: l)).toNat / 1000000000 = (val l).toNat := by simp only [val]; omega
    rw [e1, e2, h3]

/-- the list without its highest zeros -/
def trimL (l : List Int) : List Int := digs (val l).toNat

theorem getD_take {l : List Int} {k j : Nat} (h : j < k) : (l.take k).getD j 0 = l.getD j 0 := by
  simp [List.getD_eq_getElem?_getD, h]

theorem val_take_zero {l : List Int} {k : Nat} (h : k < l.length) (hz : l.getD k 0 = 0) : val (l.take (k + 1)) = val (l.take k) := by
  rw [val_take_succ h, hz]; omega

theorem top_take {l : List Int} {k : Nat} (h : k ≤ l.length) (hz : k = 0 ∨ l.getD (k - 1) 0 ≠ 0) : Top (l.take k) := by
  intro hp
  have hl : (l.take k).length = k := by rw [List.length_take, Nat.min_eq_left h]
  rw [hl] at hp ⊢
  rw [getD_take (by omega)]
  exact hz.resolve_left (by omega)

theorem digs_of_take {l : List Int} {k : Nat} {n : Nat} (hd : Dig l) (h : k ≤ l.length) (hz : k = 0 ∨ l.getD (k - 1) 0 ≠ 0) (hv : val (l.take k) = n) : l.take k = digs n := by
  rw [← digs_val (hd.take k) (top_take h hz), hv]; rfl

theorem length_digs_le {n k : Nat} (h : n < 1000000000 ^ k) : (digs n).length ≤ k := by
  induction k generalizing n with
  | zero => have : n = 0 := by simpa using h
            subst this; rw [digs_zero]; simp
  | succ k ih =>
    by_cases h0 : n = 0
    · subst h0; rw [digs_zero]; simp
    · rw [digs_pos (by omega), List.length_cons]
      have : n / 1000000000 < 1000000000 ^ k := by rw [Nat.pow_succ] at h; exact Nat.div_lt_of_lt_mul (by rw [Nat.mul_comm]; exact h)
      have := ih this
      omega

theorem digs_lt (n : Nat) : n < 1000000000 ^ (digs n).length := by
  have h := val_lt (dig_digs n)
  rw [val_digs] at h
  have e : ((1000000000 ^ (digs n).length : Nat) : Int) = (1000000000 : Int) ^ (digs n).length := by rw [Int.natCast_pow]; rfl
  rw [← e] at h
  exact Int.ofNat_lt.1 h

theorem digs_ge {n : Nat} (h : 0 < (digs n).length) : 1000000000 ^ ((digs n).length - 1) ≤ n := by
  apply Decidable.byContradiction
  intro hc
  have := length_digs_le (n := n) (k := (digs n).length - 1) (by omega)
  omega

theorem length_digs_mono {n m : Nat} (h : n ≤ m) : (digs n).length ≤ (digs m).length :=
  length_digs_le (Nat.lt_of_le_of_lt h (digs_lt m))

theorem digs_len_zero {n : Nat} : (digs n).length = 0 ↔ n = 0 := by
  constructor
  · intro h; have := digs_lt n; rw [h] at this; omega
  · rintro rfl; rw [digs_zero]; rfl

/-- the order of two lists of one length, from the highest digit below k -/
def cmpTo (x y : List Int) : Nat → Int
  | 0 => 0
  | k + 1 => if x.getD k 0 = y.getD k 0 then cmpTo x y k else x.getD k 0 - y.getD k 0

theorem cmpTo_sign {x y : List Int} (hx : Dig x) (hy : Dig y) : ∀ k, k ≤ x.length → k ≤ y.length →
    ((0 < cmpTo x y k ↔ val (y.take k) < val (x.take k)) ∧ (cmpTo x y k < 0 ↔ val (x.take k) < val (y.take k)) ∧ -1000000000 < cmpTo x y k ∧ cmpTo x y k < 1000000000)
  | 0, _, _ => by simp [cmpTo]
  | k + 1, h1, h2 => by
    have ih := cmpTo_sign hx hy k (by omega) (by omega)
    rw [val_take_succ (by omega), val_take_succ (by omega)]
    have a1 := hx.all k; have a2 := hy.all k
    have b1 := val_lt (hx.take k); have b2 := val_lt (hy.take k)
    have c1 := val_nonneg (hx.take k); have c2 := val_nonneg (hy.take k)
    rw [List.length_take, Nat.min_eq_left (by omega)] at b1 b2
    simp only [cmpTo]
    generalize (1000000000 : Int) ^ k = p at *
    generalize val (x.take k) = u at *
    generalize val (y.take k) = v at *
    generalize x.getD k 0 = a at *
    generalize y.getD k 0 = b at *
    by_cases h : a = b
    · subst h; rw [if_pos rfl]; refine ⟨by rw [ih.1]; omega, by rw [ih.2.1]; omega, ih.2.2.1, ih.2.2.2⟩
    · rw [if_neg h]
      have hp : 0 < p := by omega
      rcases Int.lt_or_gt_of_ne h with hlt | hgt
      · have : (a + 1) * p ≤ b * p := Int.mul_le_mul_of_nonneg_right (by omega) (by omega)
        rw [Int.add_mul, Int.one_mul] at this
        exact ⟨by omega, by omega, by omega, by omega⟩
      · have : (b + 1) * p ≤ a * p := Int.mul_le_mul_of_nonneg_right (by omega) (by omega)
        rw [Int.add_mul, Int.one_mul] at this
        exact ⟨by omega, by omega, by omega, by omega⟩

/-- the order of two sizes, as Go's Cmp has it -/
def cmpS (x y : List Int) : Int := if x.length = y.length then cmpTo x y x.length else (x.length : Int) - y.length

theorem cmpS_sign {m n : Nat} : (0 < cmpS (digs m) (digs n) ↔ n < m) ∧ (cmpS (digs m) (digs n) < 0 ↔ m < n) := by
  unfold cmpS
  by_cases h : (digs m).length = (digs n).length
  · rw [if_pos h]
    have := cmpTo_sign (dig_digs m) (dig_digs n) (digs m).length (Nat.le_refl _) (by omega)
    rw [List.take_length, h, List.take_length, val_digs, val_digs] at this
    rw [h]
    exact ⟨by rw [this.1]; omega, by rw [this.2.1]; omega⟩
  · rw [if_neg h]
    constructor
    · constructor
      · intro h2
        apply Decidable.byContradiction; intro h3
        have := length_digs_mono (show m ≤ n by omega); omega
      · intro h2
        have := length_digs_mono (show n ≤ m by omega); omega
    · constructor
      · intro h2
        apply Decidable.byContradiction; intro h3
        have := length_digs_mono (show n ≤ m by omega); omega
      · intro h2
        have := length_digs_mono (show m ≤ n by omega); omega

end Go.Proofs.YthommhfppeonpaaGreatDoor

namespace Go.Proofs.YthommhfppeonpaaGreatDoor
open Go.RowKit

section
variable {P : Program} {ops : Array Oper} {Q : Exit → Act → World → Prop} {md : Region.Mode}

/-- Whatever order is picked from here on; behind each operation before number n what was there is as it was. -/
def wpR (P : Program) (md : Region.Mode) (ops : Array Oper) (Q : Exit → Act → World → Prop) (n : Nat) : Nat → Array Bool → Act → World → Prop
  | 0, listed, a, w => Region.ready md ops listed = [] ∧ Q .normal a w
  | fuel + 1, listed, a, w =>
    (Region.ready md ops listed = [] → Q .normal a w) ∧
    ∀ i ∈ Region.ready md ops listed, wpOp P ops Q i (fun a' w' => (i < n → Below w.heap.size w w') ∧ wpR P md ops Q n fuel (listed.setIfInBounds i true) a' w') a w

theorem wpAny_of_R {n : Nat} : ∀ (fuel : Nat) (listed : Array Bool) (a : Act) (w : World), wpR P md ops Q n fuel listed a w → wpAny P md ops Q fuel listed a w
  | 0, _, _, _, h => h
  | fuel + 1, _, _, _, h => ⟨h.1, fun i hi => wpOp_mono (fun a' w' h' => wpAny_of_R fuel _ a' w' h'.2) (h.2 i hi)⟩

theorem YieldsIf.stay {o : Oper} {v : Value} {a : Act} {w w' : World} (h : YieldsIf P ops (fun x => Below w.heap.size w x) o v a) (hb : Below w.heap.size w w') :
    YieldsIf P ops (fun x => Below w'.heap.size w' x) o v a :=
  h.imp (fun ⟨h1, h2⟩ => ⟨h1, fun x hx => h2 x (hb.trans (hx.mono hb.size))⟩) id

theorem wpR_first {n i : Nat} {oi : Oper} {v : Value} (hi : ops[i]? = some oi) (hsel : ∀ (j : Nat) (o : Oper) cs b, ops[j]? = some o → o.op ≠ .select cs b)
    (hs : Region.sinkB md ops n = true) (hc : Region.chainB md ops n = true) (hn : n < ops.size) (hin : i < n)
    (hQ : ∀ c a w, Q (.panic c) (a.put oi.dst v) w → Q (.panic c) a w) :
    ∀ (fuel : Nat) (listed : Array Bool) (a : Act) (w : World), HeadInv md ops n listed →
      (∀ j oj, ops[j]? = some oj → j ≠ i → listed.getD j true = false → (∀ e ∈ oj.after, Region.binds md e = true → e.on ≠ i) → oi.apart ops oj = true) →
      i ∈ Region.ready md ops listed → YieldsIf P ops (fun x => Below w.heap.size w x) oi v a →
      wpR P md ops Q n fuel (listed.setIfInBounds i true) (a.put oi.dst v) w → wpR P md ops Q n (fuel + 1) listed a w := by
  intro fuel
  induction fuel with
  | zero =>
    intro listed a w _ _ hr hy H
    refine ⟨fun h => (by rw [h] at hr; cases hr), fun j hj => ?_⟩
    by_cases hji : j = i
    · subst hji; exact hy.wpOp hi (Below.refl _ _) ⟨fun _ => Below.refl _ _, H⟩
    · have := ready_mono hj hji
      rw [H.1] at this
      cases this
  | succ fuel ih =>
    intro listed a w inv hfree hr hy H
    have hun := (mem_ready.1 hr).1
    refine ⟨fun h => (by rw [h] at hr; cases hr), fun j hj => ?_⟩
    have hjn : j < n := by
      rcases Nat.lt_or_ge j n with h | h
      · exact h
      · exact absurd hj (tail_waits hs hc hn inv _ i rfl hin hun j h)
    by_cases hji : j = i
    · subst hji; exact hy.wpOp hi (Below.refl _ _) ⟨fun _ => Below.refl _ _, H⟩
    · have h1 := H.2 j (ready_mono hj hji)
      obtain ⟨hjun, oj, hoj, hall⟩ := mem_ready.1 hj
      have hnot : ∀ e ∈ oj.after, Region.binds md e = true → e.on ≠ i := fun e he hb heq => by
        have h1 := hall e he hb
        rw [heq, getD_both hun] at h1
        cases h1
      have h2 := wpOp_putIf hoj (hfree j oj hoj hji hjun hnot) (fun cs b => hsel i oi cs b hi) (fun cs b => hsel j oj cs b hoj) hQ hy h1
      have hfree' : ∀ k ok, ops[k]? = some ok → k ≠ i → (listed.setIfInBounds j true).getD k true = false →
          (∀ e ∈ ok.after, Region.binds md e = true → e.on ≠ i) → oi.apart ops ok = true := fun k ok hk hki hun hno => by
        refine hfree k ok hk hki ?_ hno
        by_cases hjk : j = k
        · subst hjk; exact hjun
        · rw [getD_set_ne true hjk] at hun; exact hun
      refine wpOp_mono (fun a' w' h3 => ⟨h3.2.1, ih (listed.setIfInBounds j true) a' w' (inv.set hj hjn) hfree' (ready_mono hr (Ne.symm hji)) (YieldsIf.stay h3.1 (h3.2.1 hjn)) ?_⟩) h2
      rw [Array.setIfInBounds_comm _ _ hji]
      exact h3.2.2

/-- the chosen order: of each of the first ones, whether it is taken (it merely yields) or comes up alone -/
def ordB (md : Region.Mode) (ops : Array Oper) (n : Nat) : List (Nat × Bool) → Array Bool → Bool
  | [], listed => Region.seqB md ops (ops.size - n) n listed
  | (i, t) :: rest, listed => (if t then (Region.ready md ops listed).contains i && Region.free md ops listed i else decide (Region.ready md ops listed = [i])) && decide (i < n) && ordB md ops n rest (listed.setIfInBounds i true)

/-- the walk in the chosen order -/
def wpOrd (P : Program) (ops : Array Oper) (Q : Exit → Act → World → Prop) (n : Nat) : List (Nat × Bool) → Act → World → Prop
  | [], a, w => wpList P ops Q (ops.toList.drop n) a w
  | (i, true) :: rest, a, w => ∃ o v, ops[i]? = some o ∧ YieldsIf P ops (fun x => Below w.heap.size w x) o v a ∧ (∀ c a w, Q (.panic c) (a.put o.dst v) w → Q (.panic c) a w) ∧ wpOrd P ops Q n rest (a.put o.dst v) w
  | (i, false) :: rest, a, w => wpOp P ops Q i (fun a' w' => Below w.heap.size w w' ∧ wpOrd P ops Q n rest a' w') a w

theorem wpR_of_seq {n : Nat} {Q' : Exit → Act → World → Prop} : ∀ (l : List Oper) (k : Nat) (listed : Array Bool) (a : Act) (w : World), n ≤ k → (∀ j, l[j]? = ops[k + j]?) →
    Region.seqB md ops l.length k listed = true → wpList P ops Q' l a w → wpR P md ops Q' n l.length listed a w
  | [], _, _, _, _, _, _, hB, h => ⟨by simpa [Region.seqB] using hB, h⟩
  | o :: l, k, listed, a, w, hk, hl, hB, h => by
    have h0 : ops[k]? = some o := by simpa using (hl 0).symm
    simp only [List.length_cons, Region.seqB, Bool.and_eq_true, decide_eq_true_eq] at hB
    refine ⟨fun h1 => (by rw [hB.1] at h1; cases h1), fun i hi => ?_⟩
    rw [hB.1] at hi
    have hik : i = k := by simpa using hi
    subst hik
    have hw : wpOp P ops Q' i (wpList P ops Q' l) a w := by unfold wpOp; simp only [h0]; exact h
    exact wpOp_mono (fun a' w' h' => ⟨fun hlt => absurd hlt (by omega), wpR_of_seq l (i + 1) _ a' w' (by omega) (fun j => by have := hl (j + 1); simpa [Nat.add_assoc, Nat.add_comm 1 j] using this) hB.2 h'⟩) hw

theorem wpR_of_ord {n : Nat} (hsel : Region.noSelect ops = true) (hs : Region.sinkB md ops n = true) (hc : Region.chainB md ops n = true) (hn : n < ops.size) :
    ∀ (ord : List (Nat × Bool)) (listed : Array Bool) (a : Act) (w : World), HeadInv md ops n listed → ordB md ops n ord listed = true → wpOrd P ops Q n ord a w →
      wpR P md ops Q n (ord.length + (ops.size - n)) listed a w
  | [], listed, a, w, _, hB, h => by
    have := wpR_of_seq (md := md) (n := n) (Q' := Q) (ops.toList.drop n) n listed a w (Nat.le_refl _) (fun j => by simp [List.getElem?_drop]) (by simpa [ordB] using hB) h
    simpa using this
  | (i, true) :: rest, listed, a, w, inv, hB, h => by
    obtain ⟨o, v, ho, hy, hQ, h⟩ := h
    simp only [ordB, if_true, Bool.and_eq_true, decide_eq_true_eq] at hB
    obtain ⟨⟨⟨h1, h2⟩, h3⟩, h4⟩ := hB
    have hr : i ∈ Region.ready md ops listed := by simpa using h1
    have := wpR_first ho (Region.noSelect_spec hsel) hs hc hn h3 hQ _ listed a w inv (Region.free_spec ho h2) hr hy (wpR_of_ord hsel hs hc hn rest _ _ w (inv.set hr h3) h4 h)
    rw [List.length_cons, show rest.length + 1 + (ops.size - n) = rest.length + (ops.size - n) + 1 by omega]
    exact this
  | (i, false) :: rest, listed, a, w, inv, hB, h => by
    simp only [ordB, Bool.false_eq_true, if_false, Bool.and_eq_true, decide_eq_true_eq] at hB
    obtain ⟨⟨h1, h3⟩, h4⟩ := hB
    have hr : i ∈ Region.ready md ops listed := by rw [h1]; simp
    rw [List.length_cons, show rest.length + 1 + (ops.size - n) = rest.length + (ops.size - n) + 1 by omega]
    refine ⟨fun h0 => (by rw [h0] at h1; cases h1), fun j hj => ?_⟩
    rw [h1] at hj
    obtain rfl : j = i := by simpa using hj
    exact wpOp_mono (fun a' w' h' => ⟨fun _ => h'.1, wpR_of_ord hsel hs hc hn rest _ a' w' (inv.set hr h3) h4 h'.2⟩) h

/-- the order serves: a closed fact -/
def eagerB (md : Region.Mode) (ops : Array Oper) (n : Nat) (ord : List (Nat × Bool)) : Bool :=
  Region.noSelect ops && decide (n < ops.size) && decide (ord.length = n) && Region.sinkB md ops n && Region.chainB md ops n && ordB md ops n ord (Array.replicate ops.size false)

/-- THE BEGINNING -/
theorem wp_region_eager {id : Nat} {a : Act} {w : World} (n : Nat) (ord : List (Nat × Bool)) (hm : P.follows .mixedOrders = true) (hB : eagerB .any ops n ord = true)
    (h : wpOrd P ops Q n ord a w.drew) : (Code.region id ops true).wp P Q a w := by
  simp only [eagerB, Bool.and_eq_true, decide_eq_true_eq] at hB
  obtain ⟨⟨⟨⟨⟨hsel, hn⟩, hl⟩, hs⟩, hc⟩, ho⟩ := hB
  have inv0 : HeadInv .any ops n (Array.replicate ops.size false) :=
    ⟨by simp, fun j oj _ hl => (by rw [getD_replicate_false] at hl; cases hl), fun t _ ht => getD_in (by simpa using ht) (getD_replicate_false _ _)⟩
  have := wpR_of_ord (P := P) (Q := Q) hsel hs hc hn ord _ a w.drew inv0 ho h
  rw [hl, show n + (ops.size - n) = ops.size by omega] at this
  exact wp_region_any hm (wpAny_of_R _ _ _ _ this)

/-- an operation that merely yields -/
theorem wpOrd_yield {n i : Nat} {rest : List (Nat × Bool)} {o : Oper} {v : Value} {a : Act} {w : World} (hi : ops.toList[i]? = some o) (hQ : ∀ c a w, Q (.panic c) (a.put o.dst v) w → Q (.panic c) a w)
    (hw : Region.wanted o (yielded ops a.tmps) = true) (hy : ∀ x, Below w.heap.size w x → (execOp a.eval o).run P x = .ok (.value v) x)
    (h : wpOrd P ops Q n rest (a.put o.dst v) w) : wpOrd P ops Q n ((i, true) :: rest) a w :=
  ⟨o, v, by rw [← Array.getElem?_toList]; exact hi, Or.inl ⟨hw, hy⟩, hQ, h⟩

/-- an operation whose guard is false -/
theorem wpOrd_skip {n i : Nat} {rest : List (Nat × Bool)} {o : Oper} {a : Act} {w : World} (hi : ops.toList[i]? = some o) (hQ : ∀ c a w, Q (.panic c) (a.put o.dst undef) w → Q (.panic c) a w)
    (hw : Region.wanted o (yielded ops a.tmps) = false)
    (h : wpOrd P ops Q n rest (a.put o.dst undef) w) : wpOrd P ops Q n ((i, true) :: rest) a w :=
  ⟨o, undef, by rw [← Array.getElem?_toList]; exact hi, Or.inr ⟨hw, rfl⟩, hQ, h⟩

/-- an operation that comes up alone: a call, a new variable -/
theorem wpOrd_step {n i : Nat} {rest : List (Nat × Bool)} {o : Oper} {a : Act} {w : World} (hi : ops.toList[i]? = some o) (hg : o.guard = none)
    (h : ∀ K : Act → World → Prop, (∀ a' w', Below w.heap.size w w' → wpOrd P ops Q n rest a' w' → K a' w') → o.wp P a w K Q) : wpOrd P ops Q n ((i, false) :: rest) a w := by
  have hw : Region.wanted o (yielded ops a.tmps) = true := by simp [Region.wanted, hg]
  rw [Array.getElem?_toList] at hi
  show wpOp P ops Q i _ a w
  unfold wpOp
  simp only [hi, hw, if_true]
  exact .inl (h _ fun a' w' h1 h2 => ⟨h1, h2⟩)

theorem wpOrd_nil {n : Nat} {a : Act} {w : World} {l : List Oper} (hl : ops.toList.drop n = l) (h : wpList P ops Q l a w) : wpOrd P ops Q n [] a w := by
  subst hl; exact h

end
end Go.Proofs.YthommhfppeonpaaGreatDoor

namespace Go.Proofs.YthommhfppeonpaaGreatDoor
open Go.RowKit

/-- the slot (a, n, c) reads as the ints zs; its block is below N -/
def SL (N : Nat) (w : World) (a : Option Addr) (n c : Nat) (zs : List Int) : Prop :=
  n = zs.length ∧ n ≤ c ∧ (0 < n → ∃ b off, a = some ⟨b, off, none⟩ ∧ b < N ∧ ∀ j, j < n → w.cell? ⟨b, off + j, none⟩ = some (.int .i64 (zs.getD j 0)))

theorem SL.len {N w a n c zs} (h : SL N w a n c zs) : n = zs.length := h.1
theorem SL.at {N w a n c zs} (h : SL N w a n c zs) (hn : 0 < n) : ∃ b off, a = some ⟨b, off, none⟩ ∧ b < N ∧ ∀ j, j < n → w.cell? ⟨b, off + j, none⟩ = some (.int .i64 (zs.getD j 0)) := h.2.2 hn
theorem SL.cap {N w a n c zs} (h : SL N w a n c zs) : n ≤ c := h.2.1
theorem SL.below {N M w w' a n c zs} (h : SL N w a n c zs) (hb : Below M w w') (hN : N ≤ M) : SL N w' a n c zs :=
  ⟨h.1, h.2.1, fun hn => let ⟨b, off, e, hlt, hc⟩ := h.2.2 hn; ⟨b, off, e, hlt, fun j hj => (hb.cell (p := ⟨b, off + j, none⟩) (Nat.lt_of_lt_of_le hlt hN)).trans (hc j hj)⟩⟩
theorem SL.mono {N M w a n c zs} (h : SL N w a n c zs) (hN : N ≤ M) : SL M w a n c zs :=
  ⟨h.1, h.2.1, fun hn => let ⟨b, off, e, hlt, hc⟩ := h.2.2 hn; ⟨b, off, e, Nat.lt_of_lt_of_le hlt hN, hc⟩⟩
/-- carried to the world behind a call -/
theorem SL.on {N w w' a n c zs} (h : SL N w a n c zs) (hb : Below N w w') : SL w'.heap.size w' a n c zs ∨ N > w'.heap.size := by
  by_cases hN : N ≤ w'.heap.size
  · exact Or.inl ((h.below hb (Nat.le_refl _)).mono hN)
  · exact Or.inr (by omega)
theorem SL.go {w w' a n c zs} (h : SL w.heap.size w a n c zs) (hb : Below w.heap.size w w') : SL w'.heap.size w' a n c zs :=
  (h.below hb (Nat.le_refl _)).mono hb.size
theorem SL.nil (N : Nat) (w : World) (a : Option Addr) (c : Nat) : SL N w a 0 c [] := ⟨rfl, Nat.zero_le _, fun h => absurd h (by omega)⟩
theorem SL.pre {N w a n c zs} (h : SL N w a n c zs) {k : Nat} (hk : k ≤ n) : SL N w a k c (zs.take k) :=
  ⟨by rw [List.length_take, ← h.1, Nat.min_eq_left hk], Nat.le_trans hk h.2.1, fun hn => let ⟨b, off, e, hlt, hc⟩ := h.2.2 (by omega); ⟨b, off, e, hlt, fun j hj => by rw [getD_take hj]; exact hc j (by omega)⟩⟩

/-- a block whose first cells are these values, free to be written -/
def Cells (w : World) (g : Nat) (cs : List Value) (t : TypeId) : Prop := ∃ rest : List Value, w.heap[g]? = some (.cells (cs ++ rest).toArray t (0, 0))

theorem Cells.lt {w g cs t} (h : Cells w g cs t) : g < w.heap.size := let ⟨_, h⟩ := h; lt_of_block h
theorem Cells.cell {w g cs t} (h : Cells w g cs t) {j : Nat} (hj : j < cs.length) : w.cell? ⟨g, j, none⟩ = some cs[j] := by
  obtain ⟨r, h⟩ := h; simp [World.cell?, h, List.getElem?_append_left hj, List.getElem?_eq_getElem hj]
theorem Cells.free {w g cs t} (h : Cells w g cs t) (j : Nat) : w.frozen? ⟨g, j, none⟩ = false := by
  obtain ⟨r, h⟩ := h; simp [World.frozen?, h]
theorem Cells.below {w w' g cs t B} (h : Cells w g cs t) (hb : Below B w w') (hg : g < B) : Cells w' g cs t := let ⟨r, h⟩ := h; ⟨r, (hb.block g hg).trans h⟩
theorem Cells.set {w g cs t} (h : Cells w g cs t) (j : Nat) (hj : j < cs.length) (v : Value) : Cells (w.setCell ⟨g, j, none⟩ v) g (cs.set j v) t := by
  have hlt := h.lt
  obtain ⟨r, h⟩ := h
  have h' : w.heap[g] = .cells (cs ++ r).toArray t (0, 0) := by simpa [Array.getElem?_eq_getElem hlt] using h
  refine ⟨r, ?_⟩
  show (w.heap.modify g _)[g]? = _
  rw [Array.getElem?_eq_getElem (by simpa using hlt), Array.getElem_modify_self, h']
  simp [hj]
theorem Cells.other {w g cs t} (h : Cells w g cs t) (p : Addr) (hp : p.block ≠ g) (v : Value) : Cells (w.setCell p v) g cs t :=
  let ⟨r, h⟩ := h; ⟨r, by rw [Below.heap_setCell _ _ _ _ (fun e => hp e.symm)]; exact h⟩
theorem Cells.drew {w g cs t} (h : Cells w g cs t) (k : Nat) : Cells (w.drewN k) g cs t := h
theorem Cells.pre {w g cs t} {ds : List Value} (h : Cells w g (cs ++ ds) t) : Cells w g cs t := let ⟨r, h⟩ := h; ⟨ds ++ r, by rw [← List.append_assoc]; exact h⟩

/-- a block whose first cells are these ints, free to be written -/
def Blk (w : World) (g : Nat) (zs : List Int) : Prop := Cells w g (zs.map (Value.int .i64)) 3

theorem Blk.lt {w g zs} (h : Blk w g zs) : g < w.heap.size := Cells.lt h
theorem Blk.cell {w g zs} (h : Blk w g zs) {j : Nat} (hj : j < zs.length) : w.cell? ⟨g, j, none⟩ = some (.int .i64 (zs.getD j 0)) := by
  have := Cells.cell h (j := j) (by simpa using hj)
  simpa [List.getD_eq_getElem?_getD, List.getElem?_eq_getElem hj] using this
theorem Blk.free {w g zs} (h : Blk w g zs) (j : Nat) : w.frozen? ⟨g, j, none⟩ = false := Cells.free h j
theorem Blk.below {w w' g zs B} (h : Blk w g zs) (hb : Below B w w') (hg : g < B) : Blk w' g zs := Cells.below h hb hg
theorem Blk.set {w g zs} (h : Blk w g zs) (j : Nat) (hj : j < zs.length) (v : Int) : Blk (w.setCell ⟨g, j, none⟩ (.int .i64 v)) g (zs.set j v) := by
  have := Cells.set h j (by simpa using hj) (.int .i64 v)
  unfold Blk; rw [List.map_set]; exact this
theorem Blk.sl {w g zs} (h : Blk w g zs) {c : Nat} (hc : zs.length ≤ c) : SL w.heap.size w (some ⟨g, 0, none⟩) zs.length c zs :=
  ⟨rfl, hc, fun _ => ⟨g, 0, rfl, h.lt, fun j hj => by rw [Nat.zero_add]; exact h.cell hj⟩⟩
theorem Blk.drew {w g zs} (h : Blk w g zs) (k : Nat) : Blk (w.drewN k) g zs := h

theorem below_drewN {B : Nat} {a w : World} (h : Below B a w) (n : Nat) : Below B a (w.drewN n) := h.trans ⟨rfl, rfl, rfl, Nat.le_refl _, fun _ _ => rfl⟩

theorem below_undrew {B : Nat} {w w' : World} {k : Nat} (h : Below B (w.drewN k) w') : Below B w w' := ⟨h.os, h.tape, h.output, h.size, h.block⟩

/-- behind a call: all old cells read as before -/
theorem bcells {w w' : World} (hb : Below w.heap.size w w') : (∀ b o, b < w.heap.size → w'.cell? ⟨b, o, none⟩ = w.cell? ⟨b, o, none⟩) ∧ (∀ b o, b < w.heap.size → w'.frozen? ⟨b, o, none⟩ = w.frozen? ⟨b, o, none⟩) :=
  ⟨fun b o h => hb.cell (p := ⟨b, o, none⟩) h, fun b o h => hb.frozen (p := ⟨b, o, none⟩) h⟩

/-- the slot lies in no block below B -/
def Fresh (B : Nat) (a : Option Addr) (n : Nat) : Prop := ∀ b off, a = some ⟨b, off, none⟩ → 0 < n → B ≤ b

theorem Fresh.ofNone (B : Nat) (n : Nat) : Fresh B none n := fun b off e => by cases e
theorem Fresh.zero (B : Nat) (a : Option Addr) : Fresh B a 0 := fun b off _ h => absurd h (by omega)
theorem Fresh.mk {B g off : Nat} (h : B ≤ g) (n : Nat) : Fresh B (some ⟨g, off, none⟩) n := fun b o e _ => by cases e; exact h
theorem Fresh.mono {B B' : Nat} {a : Option Addr} {n : Nat} (h : Fresh B a n) (hB : B' ≤ B) : Fresh B' a n := fun b off e h0 => Nat.le_trans hB (h b off e h0)

/-- a slice that lies elsewhere stays as it is where a cell is written -/
theorem SL.setCell {N : Nat} {w : World} {a : Option Addr} {n c : Nat} {zs : List Int} (h : SL N w a n c zs) (p : Addr) (u : Value) (hne : ∀ b off, a = some ⟨b, off, Option.none⟩ → 0 < n → b ≠ p.block) : SL N (w.setCell p u) a n c zs := by
  refine ⟨h.1, h.2.1, fun h0 => ?_⟩
  obtain ⟨b, off, e, hlt, hc⟩ := h.2.2 h0
  have hb := hne b off e h0
  exact ⟨b, off, e, hlt, fun j hj => by rw [World.cell?_setCell_other _ _ _ _ (fun e => hb (congrArg Addr.block e).symm)]; exact hc j hj⟩

/-- a call that gives back a slice of ints, and changes nothing that was there -/
def RetS (w : World) (zs : List Int) (e : Ending) (w' : World) : Prop :=
  ∃ a n c, e = .returned (.slice a n c) ∧ SL w'.heap.size w' a n c zs ∧ Below w.heap.size w w' ∧ Fresh w.heap.size a n

/-- a call that only reads (and draws) and gives back v -/
def RetQ (w : World) (v : Value) (e : Ending) (w' : World) : Prop := e = .returned v ∧ ∃ k, w' = w.drewN k

/-- a call that gives back v, and changes nothing that was there -/
def RetB (w : World) (v : Value) (e : Ending) (w' : World) : Prop := e = .returned v ∧ Below w.heap.size w w'

theorem Tryz.infoInt : (Tryz.prog.info? 3).map (fun i => (i.zero, i.size, i.bytes)) = some (some (.int .i64 0), 1, 8) := by kernel_rfl

theorem info_of {t : TypeId} {z : Value} {s b : Nat} (h : (Tryz.prog.info? t).map (fun i => (i.zero, i.size, i.bytes)) = some (some z, s, b)) :
    ∃ i, Tryz.prog.info? t = some i ∧ i.zero = some z ∧ i.size = s ∧ i.bytes = b := by
  cases hi : Tryz.prog.info? t with
  | none => rw [hi] at h; cases h
  | some i => rw [hi] at h; simp at h; exact ⟨i, rfl, h.1, h.2.1, h.2.2⟩

theorem madeInts (n : Nat) : madeCells (Value.int .i64 0).cells n = ((List.replicate n (0 : Int)).map (Value.int .i64)).toArray := by
  apply Array.ext
  · simp [madeCells]
  · intro i h1 h2
    simp [madeCells, Value.cells, Nat.mod_one]

theorem wpList_make_ints {w : World} {ops : Array Oper} {rest : List Oper} {o : Oper} {a : Act} {Q : Exit → Act → World → Prop}
    (hg : o.guard = none) (l c : Operand) (t : TypeId) (hop : o.op = Op.makeSlice t l c) (ht : Tryz.prog.underlying t = some (.slice 3))
    (L : Int) (n : Nat) (hl : a.eval l = .int .i64 L) (hc : a.eval c = .int .i64 L) (hL : L = (n : Int)) (hn : n ≤ 10000000000000)
    (hK : ∀ w', Blk w' w.heap.size (List.replicate n 0) → Below w.heap.size w w' → wpList Tryz.prog ops Q rest (a.put o.dst (.slice (some ⟨w.heap.size, 0, none⟩) n n)) w') :
    wpList Tryz.prog ops Q (o :: rest) a w := by
  refine wpList_plain hg fun K hK' => ?_
  obtain ⟨i, hi, hz, hs, hb⟩ := info_of Tryz.infoInt
  subst hL
  have hr := run_make (P := Tryz.prog) w t 3 i _ ht hi hz .i64 .i64 (n : Int) (n : Int) (by omega) (by omega) (by rw [hb]; omega) (by omega)
  rw [hs, Int.toNat_natCast, Nat.mul_one, madeInts] at hr
  unfold Oper.wp
  simp [execOp, hop, hl, hc, hr, Result.andThen]
  refine hK' _ _ (hK _ ?_ ((Below.refl _ _).alloc (Nat.le_refl _) _))
  refine ⟨[], ?_⟩
  rw [heap_alloc_new]
  simp

/-- the first ones of a list, put over those of another -/
def over (cs zs : List Int) : List Int := cs ++ zs.drop cs.length

theorem wpList_copy_ints {w : World} {ops : Array Oper} {rest : List Oper} {o : Oper} {a : Act} {Q : Exit → Act → World → Prop} (hgd : o.guard = none) (d s : Operand) (dT sT : TypeId)
    (ho : o.op = .call { callee := .builtin .copy, args := #[d, s], argTypes := #[dT, sT] }) (hu : Tryz.prog.underlying dT = some (.slice 3))
    (g : Nat) (dLen dCap : Nat) (sp : Option Addr) (sLen sCap : Nat) (hd : a.eval d = .slice (some ⟨g, 0, none⟩) dLen dCap) (hs : a.eval s = .slice sp sLen sCap)
    (N : Nat) (xs zs : List Int) (hx : SL N w sp sLen sCap xs) (hz : Blk w g zs) (hlz : dLen = zs.length) (hle : xs.length ≤ zs.length) (B : Nat) (w0 : World) (hb : Below B w0 w) (hBg : B ≤ g)
    (h : ∀ w', Blk w' g (over xs zs) → Below B w0 w' → wpList Tryz.prog ops Q rest (a.put o.dst (goInt xs.length)) w') :
    wpList Tryz.prog ops Q (o :: rest) a w := by
  have hsz : (Tryz.prog.info? 3).map (·.size) = some 1 := by obtain ⟨i, hi, _, hs, _⟩ := info_of Tryz.infoInt; rw [hi]; simp [hs]
  have hlen : (xs.map (Value.int .i64)).length = Nat.min sLen dLen := by
    rw [List.length_map, hlz]; show _ = min _ _; have := hx.len; omega
  obtain ⟨r, hz⟩ := hz
  refine wpList_copy_splice hgd d s dT sT ho 3 hu hsz _ _ dLen dCap sLen sCap hd hs g 0 (zs.map (Value.int .i64) ++ r) 3 hz (xs.map (Value.int .i64)) hlen ?_ (by simp; omega) (by simp [Value.oneCell']) B w0 hb hBg ?_
  · intro hp
    refine ⟨rfl, ?_⟩
    obtain ⟨b, off, rfl, _, hc⟩ := hx.2.2 (by have := hx.len; simp at hp; omega)
    refine ⟨_, rfl, fun j v hj => ?_⟩
    have hjl : j < xs.length := by
      apply Decidable.byContradiction; intro hcon
      rw [List.getElem?_eq_none (by simp; omega)] at hj; cases hj
    rw [List.getElem?_map, List.getElem?_eq_getElem hjl] at hj
    simp at hj; subst hj
    have := hc j (by have := hx.len; omega)
    rw [List.getD_eq_getElem?_getD, List.getElem?_eq_getElem hjl] at this
    unfold Addr.add
    by_cases h0 : j = 0
    · subst h0; simpa using this
    · simpa [h0] using this
  · intro w' hw' hb'
    have e : (xs.map (Value.int .i64)).length = xs.length := by simp
    rw [e]
    refine h w' ?_ hb'
    have := hw'.out
    refine ⟨r, ?_⟩
    rw [this]
    have e2 : xs.length - zs.length = 0 := by omega
    simp [splice, over, List.map_drop, List.drop_append, e2]

/-- what the call owns as a row, read as a block -/
theorem owns_cells {w : World} {base : Nat} {t : TypeId} {size : Nat} {v : Value} {n : Nat} {xs : List Value} (h : w.ownsRow base t size v n xs) :
    xs.length = n * size ∧ ((v = .slice none 0 0 ∧ n = 0) ∨ ∃ g cap, v = .slice (some ⟨g, 0, none⟩) n cap ∧ base ≤ g ∧ n ≤ cap ∧ Cells w g xs t) := by
  refine ⟨h.1, h.2.imp id ?_⟩
  rintro ⟨g, cap, cur, rfl, hb, hh, hc, _, _, ht⟩
  refine ⟨g, cap, rfl, hb, hc, cur.toList.drop (n * size), ?_⟩
  rw [hh, ← ht, List.take_append_drop]

theorem Below.of_grown {w w' : World} {row : Option Nat} (hg : w.grownBy w' row) (hr : ∀ k, row = some k → w.heap.size ≤ k) : Below w.heap.size w w' :=
  (Below.refl _ _).grown hg (Nat.le_refl _) hr

/-- append, the first one the call's own (or nil), the second one any slice that reads as these cells -/
theorem wpList_append_cells {w : World} {ops : Array Oper} {rest : List Oper} {o : Oper} {a : Act} {Q : Exit → Act → World → Prop} (hgd : o.guard = none) (s x : Operand) (t : TypeId)
    (ho : o.op = .call { callee := .builtin .append, args := #[s, x], argTypes := #[t, t] })
    (base : Nat) (e : TypeId) (z : Value) (size bytes : Nat) (ht : Tryz.prog.underlying t = some (.slice e)) (hi : (Tryz.prog.info? e).map (fun i => (i.zero, i.size, i.bytes)) = some (some z, size, bytes))
    (hzs : z.cells.size = size) (hsz : 0 < size)
    (v : Value) (n : Nat) (xs : List Value) (hs : a.eval s = v) (hown : w.ownsRow base e size v n xs)
    (sp : Option Addr) (m c : Nat) (news : List Value) (hx : a.eval x = .slice sp m c) (hl : news.length = m * size)
    (hnews : 0 < m → ∃ b off, sp = some ⟨b, off, none⟩ ∧ ∀ j u, news[j]? = some u → w.cell? ⟨b, off + j, none⟩ = some u) (h1 : ∀ u ∈ news, u.oneCell' = true)
    (hmn : sp = none → m = 0 ∧ c = 0) (hb : (n + m) * bytes ≤ 140737488355328) (hb2 : n + m ≤ 140737488355328) (hbase : base ≤ w.heap.size)
    (h : ∀ v' w', w'.ownsRow base e size v' (n + m) (xs ++ news) → w.grownBy w' v.ownBlock → wpList Tryz.prog ops Q rest (a.put o.dst v') w') :
    wpList Tryz.prog ops Q (o :: rest) a w := by
  obtain ⟨i, hi1, hi2, hi3, hi4⟩ := info_of hi
  cases sp with
  | none =>
    obtain ⟨rfl, rfl⟩ := hmn rfl
    obtain rfl : news = [] := List.eq_nil_of_length_eq_zero (by simpa using hl)
    refine wpList_append_own_none hgd s x t ho base e i size ht hi1 v n xs hs hown hx ?_
    exact h v w (by simpa using hown) ⟨rfl, rfl, rfl, Nat.le_refl _, fun _ _ _ => rfl⟩
  | some ad =>
    refine wpList_append_own w hgd s x t ho base e i z size bytes ht hi1 hi2 hi3 hi4 hzs hsz v n xs hs hown ad m c news hx hl ?_ h1 (by unfold maxLen; omega) hb hbase (fun v' w' h2 h3 _ => h v' w' h2 h3)
    intro j u hj
    by_cases hm : 0 < m
    · obtain ⟨b, off, he, hc⟩ := hnews hm
      obtain rfl := Option.some.inj he
      have := hc j u hj
      unfold Addr.add
      by_cases h0 : j = 0
      · subst h0; simpa using this
      · simpa [h0] using this
    · have : news.length = 0 := by rw [hl, show m = 0 by omega]; simp
      rw [List.eq_nil_of_length_eq_zero this] at hj; simp at hj

/-- append of ints -/
theorem wpList_append_ints {w : World} {ops : Array Oper} {rest : List Oper} {o : Oper} {a : Act} {Q : Exit → Act → World → Prop} (hgd : o.guard = none) (s x : Operand) (t : TypeId)
    (ho : o.op = .call { callee := .builtin .append, args := #[s, x], argTypes := #[t, t] }) (ht : Tryz.prog.underlying t = some (.slice 3))
    (base : Nat) (v : Value) (n : Nat) (zs : List Int) (hs : a.eval s = v) (hown : w.ownsRow base 3 1 v n (zs.map (Value.int .i64)))
    (N : Nat) (sp : Option Addr) (m c : Nat) (xs : List Int) (hx : a.eval x = .slice sp m c) (hsl : SL N w sp m c xs) (hmn : sp = none → c = 0)
    (hb : n + m ≤ 10000000000000) (hbase : base ≤ w.heap.size)
    (h : ∀ v' w', w'.ownsRow base 3 1 v' (n + m) ((zs ++ xs).map (Value.int .i64)) → w.grownBy w' v.ownBlock → wpList Tryz.prog ops Q rest (a.put o.dst v') w') :
    wpList Tryz.prog ops Q (o :: rest) a w := by
  refine wpList_append_cells hgd s x t ho base 3 (.int .i64 0) 1 8 ht Tryz.infoInt (by simp [Value.cells]) (by omega) v n _ hs hown sp m c (xs.map (Value.int .i64)) hx (by simp [hsl.len]) ?_ (by simp [Value.oneCell']) ?_ (by omega) (by omega) hbase ?_
  · intro hm
    obtain ⟨b, off, e, _, hc⟩ := hsl.2.2 hm
    refine ⟨b, off, e, fun j u hj => ?_⟩
    have hjl : j < xs.length := by
      apply Decidable.byContradiction; intro hcon
      rw [List.getElem?_eq_none (by simp; omega)] at hj; cases hj
    have := hc j (by have := hsl.len; omega)
    rw [List.getElem?_map, List.getElem?_eq_getElem hjl] at hj
    simp at hj; subst hj
    rw [this, List.getD_eq_getElem?_getD, List.getElem?_eq_getElem hjl]; rfl
  · intro e
    refine ⟨?_, hmn e⟩
    apply Decidable.byContradiction; intro hcon
    obtain ⟨b, off, e2, _⟩ := hsl.2.2 (by omega)
    rw [e] at e2; cases e2
  · intro v' w' h2 h3
    rw [← List.map_append] at h2
    exact h v' w' h2 h3

/-- the block that was laid ahead of a call, behind it -/
theorem kept_new {w w1 : World} {cs : Array Value} {t : TypeId} (hb : Below (w.alloc (.cells cs t)).heap.size (w.alloc (.cells cs t)) w1) :
    (∀ i, w1.cell? ⟨w.heap.size, i, none⟩ = cs[i]?) ∧ (∀ i, w1.frozen? ⟨w.heap.size, i, none⟩ = false) ∧ w.heap.size < w1.heap.size := by
  have hs : (w.alloc (.cells cs t)).heap.size = w.heap.size + 1 := by simp
  refine ⟨fun i => ?_, fun i => ?_, by have := hb.size; omega⟩
  · rw [hb.cell (p := ⟨w.heap.size, i, none⟩) (by simp)]
    exact World.cell?_alloc_at _ _ _ _ rfl
  · rw [hb.frozen (p := ⟨w.heap.size, i, none⟩) (by simp)]
    exact World.frozen?_alloc_at _ _ _ _ rfl
theorem below_alloc {w w1 : World} {o : Obj} (hb : Below (w.alloc o).heap.size (w.alloc o) w1) : Below w.heap.size w w1 :=
  ((Below.refl _ _).alloc (Nat.le_refl _) _).trans (hb.mono (by simp))
theorem SL.alloc {w : World} {a n c zs} (h : SL w.heap.size w a n c zs) (o : Obj) : SL (w.alloc o).heap.size (w.alloc o) a n c zs :=
  h.go ((Below.refl _ _).alloc (Nat.le_refl _) _)

theorem SL.one (w : World) (x : Int) (t : TypeId) : SL (w.alloc (.cells #[.int .i64 x] t)).heap.size (w.alloc (.cells #[.int .i64 x] t)) (some ⟨w.heap.size, 0, none⟩) 1 1 [x] :=
  ⟨rfl, Nat.le_refl _, fun _ => ⟨w.heap.size, 0, rfl, by simp, fun j hj => by
    obtain rfl : j = 0 := by omega
    exact World.cell?_alloc_at _ _ _ _ rfl⟩⟩
/-- a row of the call's own is a slice -/
theorem owns_slice {w : World} {base : Nat} {t : TypeId} {size : Nat} {v : Value} {n : Nat} {xs : List Value} (h : w.ownsRow base t size v n xs) : ∃ a c, v = .slice a n c := by
  rcases h.2 with ⟨rfl, rfl⟩ | ⟨g, cap, cur, rfl, _⟩
  · exact ⟨_, _, rfl⟩
  · exact ⟨_, _, rfl⟩
theorem owns_sl {w : World} {base : Nat} {t : TypeId} {a : Option Addr} {n c : Nat} {zs : List Int} (h : w.ownsRow base t 1 (.slice a n c) n (zs.map (Value.int .i64))) : SL w.heap.size w a n c zs := by
  have hl := h.1
  simp at hl
  rcases (owns_cells h).2 with ⟨e, rfl⟩ | ⟨g, cap, e, _, hc, hcs⟩
  · cases List.eq_nil_of_length_eq_zero hl
    exact SL.nil _ _ _ _
  · injection e with e1 e2 e3
    subst e1 e3
    refine ⟨hl.symm, hc, fun _ => ⟨g, 0, rfl, hcs.lt, fun j hj => ?_⟩⟩
    rw [Nat.zero_add, hcs.cell (by simp; omega)]
    simp [List.getD_eq_getElem?_getD, List.getElem?_eq_getElem (show j < zs.length by omega)]

/-- a block that is older than the row stays as it is while the row grows -/
theorem grown_old {w w' : World} {o : Obj} {base : Nat} {t : TypeId} {size : Nat} {v : Value} {n : Nat} {xs : List Value} (hown : w.ownsRow base t size v n xs) (hg : (w.alloc o).grownBy w' v.ownBlock)
    {b : Nat} (hb : b < base) (hbase : base ≤ w.heap.size) : w'.heap[b]? = w.heap[b]? := by
  rw [hg.block b (by simp; omega) (fun e => by have := (hown.lt b e.symm).1; omega), Below.heap_alloc _ _ _ (by omega)]
theorem grown_below {w0 w w' : World} {o : Obj} {base B : Nat} {t : TypeId} {size : Nat} {v : Value} {n : Nat} {xs : List Value} (hb : Below B w0 w) (hown : w.ownsRow base t size v n xs) (hg : (w.alloc o).grownBy w' v.ownBlock)
    (hB : B ≤ base) (hbase : base ≤ w.heap.size) : Below B w0 w' :=
  (hb.alloc (by omega) o).grown hg (by simp; omega) (fun k hk => by have := (hown.lt k hk).1; omega)

theorem obj_setCell {w : World} {b : Nat} {cs : Array Value} {t : TypeId} (h : w.heap[b]? = some (.cells cs t (0, 0))) (i : Nat) (u : Value) :
    (w.setCell ⟨b, i, none⟩ u).heap[b]? = some (.cells (cs.setIfInBounds i u) t (0, 0)) := by
  have hlt := lt_of_block h
  have h' : w.heap[b] = .cells cs t (0, 0) := by simpa [Array.getElem?_eq_getElem hlt] using h
  show (w.heap.modify b _)[b]? = _
  rw [Array.getElem?_eq_getElem (by simpa using hlt), Array.getElem_modify_self, h']
  rfl
theorem obj_other {w : World} {b : Nat} {o : Obj} (h : w.heap[b]? = some o) (p : Addr) (hp : p.block ≠ b) (u : Value) : (w.setCell p u).heap[b]? = some o :=
  (Below.heap_setCell _ _ _ _ (fun e => hp e.symm)).trans h

/-- a call that gives back a slice of ints in memory of its own -/
def RetOwn (w : World) (zs : List Int) (e : Ending) (w' : World) : Prop :=
  ∃ v, e = .returned v ∧ ((v = .slice none 0 0 ∧ zs = []) ∨ ∃ g c, v = .slice (some ⟨g, 0, none⟩) zs.length c ∧ zs.length ≤ c ∧ w.heap.size ≤ g ∧ Blk w' g zs) ∧ Below w.heap.size w w'

end Go.Proofs.YthommhfppeonpaaGreatDoor

namespace Go.Proofs.YthommhfppeonpaaGreatDoor
open Go.RowKit

/-- Trim, at digits: the digits of the value. -/
def RetTrim (w : World) (a : Option Addr) (c : Nat) (zs : List Int) (e : Ending) (w' : World) : Prop :=
  ∃ k, e = .returned (.slice a k c) ∧ k ≤ zs.length ∧ zs.take k = digs (val zs).toNat ∧ w = w'

set_option maxHeartbeats 400000 in
theorem trim_any (zs : List Int) (a : Option Addr) (n c : Nat) (w : World) (h : SL w.heap.size w a n c zs) (hd : Dig zs) (hn : n ≤ 1000000000) :
    Calls Tryz.prog 133 #[.slice a n c] w (RetTrim w a c zs) := by
  have Hd := Lib.hid hd; have H := Lib.hid h; have hcap := h.cap; clear hd h
  go_enter Tryz.func133, Tryz.ntmps133
  go_wp2
  go_loop [0] (fun v => ∃ k : Nat, k ≤ n ∧ val (zs.take k) = val zs ∧ v = .slice a k c) (fun v => match v with | .slice _ n _ => n | _ => 0)
  case atStart => exact ⟨n, Nat.le_refl _, by rw [H.out.len, List.take_length], rfl⟩
  case round =>
    obtain ⟨k, hk, ht, rfl⟩ := hrel
    have Ht := Lib.hid ht; clear ht
    by_cases h0 : k = 0
    · subst h0
      go_wp2
      go_ret
      refine ⟨0, rfl, Nat.zero_le _, ?_, rfl⟩
      exact digs_of_take (n := (val zs).toNat) Hd.out (by omega) (Or.inl rfl) (by rw [Ht.out, Int.toNat_of_nonneg (val_nonneg Hd.out)])
    · obtain ⟨k, rfl⟩ : ∃ i, k = i + 1 := ⟨k - 1, by omega⟩
      obtain ⟨hl, _, ga⟩ := H.out
      obtain ⟨b, off, rfl, _, ca⟩ := ga (by omega)
      have g1 := ca k (by omega)
      have Hl := Lib.hid hl
      clear ca ga h0 hl
      by_cases hz : zs.getD k 0 = 0
      · have Hz := Lib.hid hz
        rw [hz] at g1; clear hz
        go_wp2
        go_round
        case rel => exact ⟨k, by omega, by rw [← val_take_zero (by have := Hl.out; omega) Hz.out, Ht.out], rfl⟩
        case measure => simp
      · have Hz := Lib.hid hz
        have hz' : (zs.getD k 0 == 0) = false := by simpa using hz
        clear hz
        generalize hx : zs.getD k 0 = x at g1 hz'
        have Hx := Lib.hid hx; clear hx
        go_wp2
        go_ret
        refine ⟨k + 1, rfl, by have := Hl.out; omega, ?_, rfl⟩
        exact digs_of_take (n := (val zs).toNat) Hd.out (by have := Hl.out; omega) (Or.inr (by simpa using Hz.out)) (by rw [Ht.out, Int.toNat_of_nonneg (val_nonneg Hd.out)])

set_option maxHeartbeats 400000 in
theorem cmp_len (a b : Option Addr) (n m c d : Nat) (w : World) (hn : n ≤ 1000000000) (hm : m ≤ 1000000000) (hne : n ≠ m) :
    Calls Tryz.prog 106 #[.slice a n c, .slice b m d] w (RetQ w (.int .i64 ((n : Int) - m))) := by
  have h1 : ((n : Int) != m) = true := by simp; omega
  clear hne
  go_enter Tryz.func106, Tryz.ntmps106
  go_wp2
  go_ret
  exact ⟨rfl, 0, rfl⟩

set_option maxHeartbeats 400000 in
theorem cmp_same (xs ys : List Int) (a b : Option Addr) (n c d : Nat) (w : World) (ha : SL w.heap.size w a n c xs) (hb : SL w.heap.size w b n d ys) (hn : n ≤ 1000000000) (hx : Dig xs) (hy : Dig ys) :
    Calls Tryz.prog 106 #[.slice a n c, .slice b n d] w (RetQ w (.int .i64 (cmpTo xs ys n))) := by
  have Ha := Lib.hid ha; have Hb := Lib.hid hb; clear ha hb
  have Hx := Lib.hid hx; have Hy := Lib.hid hy; clear hx hy
  go_enter Tryz.func106, Tryz.ntmps106
  go_wp2
  go_loopw [5] (fun v wr => ∃ k j : Nat, k ≤ n ∧ v = .int .i64 ((k : Int) - 1) ∧ cmpTo xs ys n = cmpTo xs ys k ∧ wr = w.drewN j) (fun v _ => (intOf v + 1).toNat)
  case atStart => exact ⟨n, 0, Nat.le_refl _, by go_num, rfl, rfl⟩
  case round =>
    obtain ⟨k, j, hk, rfl, ht, rfl⟩ := hrel
    have Ht := Lib.hid ht; clear ht
    by_cases h0 : k = 0
    · subst h0
      go_wp2
      go_ret
      exact ⟨by rw [Ht.out]; rfl, _, rfl⟩
    · obtain ⟨k, rfl⟩ : ∃ i, k = i + 1 := ⟨k - 1, by omega⟩
      obtain ⟨_, _, ga⟩ := Ha.out
      obtain ⟨ba, oa, rfl, _, ca⟩ := ga (by omega)
      obtain ⟨_, _, gb⟩ := Hb.out
      obtain ⟨bb, ob, rfl, _, cb⟩ := gb (by omega)
      have g1 := ca k (by omega)
      have g3 := cb k (by omega)
      have g2 : (((k + 1 : Nat) : Int) - 1) = (k : Int) := by omega
      rw [g2]
      have g4 : (k : Int) < n := by omega
      have hxk := Hx.out.all k
      have hyk := Hy.out.all k
      clear g2 ca cb ga gb h0
      generalize hxx : xs.getD k 0 = x at *
      generalize hyy : ys.getD k 0 = y at *
      have Hxx := Lib.hid hxx; have Hyy := Lib.hid hyy; clear hxx hyy
      go_wp2
      go_quiet (fail)
      go_wp2
      · go_quiet (fail)
        go_wp2
        go_ret
        have hne : (x != y) = true := by assumption
        refine ⟨?_, by simp only [World.drewN_drewN]; exact ⟨_, rfl⟩⟩
        show Ending.returned (.int .i64 (x - y)) = _
        rw [Ht.out]
        simp only [cmpTo, Hxx.out, Hyy.out]
        rw [if_neg (by simpa using hne)]
      · have hne : (x != y) = false := by assumption
        have hne' : x = y := by simpa using hne
        have Hne := Lib.hid hne'; clear hne' hne
        go_roundw
        case rel =>
          refine ⟨k, _, by omega, rfl, ?_, rfl⟩
          rw [Ht.out]
          simp only [cmpTo, Hxx.out, Hyy.out]
          rw [if_pos Hne.out]
        case measure => simp [intOf]

theorem cmp_any (xs ys : List Int) (a b : Option Addr) (n m c d : Nat) (w : World) (ha : SL w.heap.size w a n c xs) (hb : SL w.heap.size w b m d ys) (hn : n ≤ 1000000000) (hm : m ≤ 1000000000) (hx : Dig xs) (hy : Dig ys) :
    Calls Tryz.prog 106 #[.slice a n c, .slice b m d] w (RetQ w (.int .i64 (cmpS xs ys))) := by
  by_cases h : n = m
  · subst h
    have := cmp_same xs ys a b n c d w ha hb hn hx hy
    unfold cmpS
    rw [if_pos (by rw [← ha.len, ← hb.len]), ← ha.len]
    exact this
  · have := cmp_len a b n m c d w hn hm h
    unfold cmpS
    rw [if_neg (by rw [← ha.len, ← hb.len]; exact h), ← ha.len, ← hb.len]
    exact this

end Go.Proofs.YthommhfppeonpaaGreatDoor

namespace Go.Proofs.YthommhfppeonpaaGreatDoor
open Go.RowKit

theorem getD_set (l : List Int) (i j : Nat) (v : Int) : (l.set i v).getD j 0 = if i = j ∧ i < l.length then v else l.getD j 0 := by
  simp only [List.getD_eq_getElem?_getD, List.getElem?_set]
  by_cases h : i = j
  · subst h
    by_cases h2 : i < l.length
    · simp [h2]
    · simp [h2]
  · simp [h]

/-- Plus, the first loop: the second one's first k digits are added. -/
def P1 (xs ys : List Int) (n k : Nat) (out : List Int) : Prop :=
  out.length = n + 1 ∧ (∀ j, 0 ≤ out.getD j 0 ∧ out.getD j 0 ≤ 1999999998) ∧ (∀ j, k ≤ j → out.getD j 0 < 1000000000) ∧ out.getD n 0 = 0 ∧ val out = val xs + val (ys.take k)

theorem P1.start {xs ys : List Int} {n : Nat} (hx : Dig xs) (hl : n = xs.length) : P1 xs ys n 0 (over xs (List.replicate (n + 1) 0)) := by
  have e : over xs (List.replicate (n + 1) 0) = xs ++ [0] := by unfold over; rw [List.drop_replicate, ← hl]; simp
  have hd : Dig (xs ++ [0]) := hx.append (Dig.cons (by omega) Dig.nil)
  rw [e]
  refine ⟨by simp [hl], fun j => ⟨(hd.all j).1, by have := (hd.all j).2; omega⟩, fun j _ => (hd.all j).2, ?_, ?_⟩
  · simp [hl]
  · rw [val_append]; simp [val]

theorem P1.step {xs ys out : List Int} {n k : Nat} (h : P1 xs ys n k out) (hy : Dig ys) (hk : k < ys.length) (hkn : k < n) : P1 xs ys n (k + 1) (out.set k (out.getD k 0 + ys.getD k 0)) := by
  obtain ⟨h1, h2, h3, h4, h5⟩ := h
  have a := hy.all k
  have b := h3 k (Nat.le_refl _)
  have b2 := (h2 k).1
  refine ⟨by simpa using h1, fun j => ?_, fun j hj => ?_, ?_, ?_⟩
  · rw [getD_set]; split
    · omega
    · exact h2 j
  · rw [getD_set, if_neg (by omega)]; exact h3 j (by omega)
  · rw [getD_set, if_neg (by omega)]; exact h4
  · rw [val_set (by omega), h5, val_take_succ hk, show out.getD k 0 + ys.getD k 0 - out.getD k 0 = ys.getD k 0 by omega]; omega

/-- Plus, the second loop: the first k carries are taken. -/
def P2 (v : Int) (n k : Nat) (out : List Int) : Prop :=
  out.length = n + 1 ∧ (∀ j, 0 ≤ out.getD j 0 ∧ out.getD j 0 ≤ 1999999999) ∧ (∀ j, j < k → out.getD j 0 < 1000000000) ∧ (∀ j, k < j → out.getD j 0 ≤ 1999999998) ∧
    (k < n → out.getD n 0 = 0) ∧ (k = n → out.getD n 0 ≤ 1) ∧ val out = v

theorem P2.start {xs ys out : List Int} {n m : Nat} (h : P1 xs ys n m out) (hm : m = ys.length) : P2 (val xs + val ys) n 0 out := by
  obtain ⟨h1, h2, h3, h4, h5⟩ := h
  refine ⟨h1, fun j => ⟨(h2 j).1, by have := (h2 j).2; omega⟩, fun j hj => absurd hj (by omega), fun j _ => (h2 j).2, fun _ => h4, fun hn => by omega, ?_⟩
  rw [h5, hm, List.take_length]

theorem P2.less {v : Int} {n k : Nat} {out : List Int} (h : P2 v n k out) (hk : k < n) (hs : out.getD k 0 < 1000000000) : P2 v n (k + 1) out := by
  obtain ⟨h1, h2, h3, h4, h5, h6, h7⟩ := h
  refine ⟨h1, h2, fun j hj => ?_, fun j hj => h4 j (by omega), fun _ => h5 hk, fun _ => by have := h5 hk; omega, h7⟩
  by_cases e : j = k
  · subst e; exact hs
  · exact h3 j (by omega)

theorem P2.more {v : Int} {n k : Nat} {out : List Int} (h : P2 v n k out) (hk : k < n) (hs : 1000000000 ≤ out.getD k 0) :
    P2 v n (k + 1) ((out.set k (out.getD k 0 - 1000000000)).set (k + 1) (out.getD (k + 1) 0 + 1)) := by
  obtain ⟨h1, h2, h3, h4, h5, h6, h7⟩ := h
  have a := h2 k; have b := h2 (k + 1); have c := h4 (k + 1) (by omega)
  refine ⟨by simpa using h1, fun j => ?_, fun j hj => ?_, fun j hj => ?_, fun hn => ?_, fun hn => ?_, ?_⟩
  · rw [getD_set, getD_set]; split
    · omega
    · split
      · omega
      · exact h2 j
  · rw [getD_set, getD_set]; split
    · omega
    · split
      · omega
      · exact h3 j (by omega)
  · rw [getD_set, getD_set, if_neg (by omega), if_neg (by omega)]; exact h4 j (by omega)
  · rw [getD_set, getD_set, if_neg (by omega), if_neg (by omega)]; exact h5 hk
  · rw [getD_set, if_pos ⟨hn, by simp; omega⟩, hn, h5 hk]; omega
  · rw [val_set (by simp; omega), val_set (by omega), getD_set, if_neg (by omega), h7, Int.pow_succ]
    generalize (1000000000 : Int) ^ k = p
    generalize out.getD k 0 = x
    rw [show x - 1000000000 - x = -1000000000 by omega, show out.getD (k + 1) 0 + 1 - out.getD (k + 1) 0 = 1 by omega]
    omega

theorem P2.dig {v : Int} {n : Nat} {out : List Int} (h : P2 v n n out) : Dig out ∧ val out = v := by
  obtain ⟨h1, h2, h3, h4, h5, h6, h7⟩ := h
  refine ⟨fun j hj => ⟨(h2 j).1, ?_⟩, h7⟩
  by_cases e : j = n
  · subst e; have := h6 rfl; omega
  · exact h3 j (by omega)

set_option maxRecDepth 100000 in
set_option maxHeartbeats 800000 in
/-- Plus, the longer one first. -/
theorem plus_ge (xs ys : List Int) (a b : Option Addr) (n m c d : Nat) (w : World) (ha : SL w.heap.size w a n c xs) (hb : SL w.heap.size w b m d ys) (hn : n ≤ 1000000) (hm : m ≤ n) (hx : Dig xs) (hy : Dig ys) :
    Calls Tryz.prog 105 #[.slice a n c, .slice b m d] w (RetS w (digs (val xs + val ys).toNat)) := by
  have Ha := Lib.hid ha; have Hb := Lib.hid hb; clear ha hb
  have Hx := Lib.hid hx; have Hy := Lib.hid hy; clear hx hy
  go_enter Tryz.func105, Tryz.ntmps105
  go_wp2_with (refine wpList_make_ints rfl (.tmp 18) (.tmp 18) 182 rfl Tryz.underlying182 ((n : Int) + 1) (n + 1) rfl rfl rfl (by omega) ?_)
  intro w1 hz1 hb1
  have hgs := hz1.lt
  generalize hg : w.heap.size = g at *
  have Hg := Lib.hid hg; clear hg
  go_wp2_with (refine wpList_copy_ints rfl (.tmp 20) (.tmp 21) 182 182 rfl Tryz.underlying182 g (n + 1) (n + 1) _ n c rfl rfl g xs _ (Ha.out.below hb1 (Nat.le_refl _)) hz1 (by simp) (by rw [← Ha.out.len]; simp) g w hb1 (Nat.le_refl _) ?_)
  intro w2 hz2 hb2
  clear hz1 hb1 hgs
  go_wp2_with fail
  go_loopw [25] (fun v wr => ∃ (k : Nat) (out : List Int), k ≤ m ∧ v = .int .i64 k ∧ Blk wr g out ∧ P1 xs ys n k out ∧ Below g w wr) (fun v _ => m - (intOf v).toNat)
  case atStart => exact ⟨0, _, Nat.zero_le _, rfl, hz2, P1.start Hx.out Ha.out.len, hb2⟩
  case round =>
    obtain ⟨k, out, hk, rfl, hblk, hp, hbw⟩ := hrel
    by_cases hkm : k < m
    · obtain ⟨hl, _, gb⟩ := Hb.out
      obtain ⟨bb, ob, rfl, hbb, cb⟩ := gb (by omega)
      have hbb' : bb < g := hbb
      have g1 := (hbw.cell (p := ⟨bb, ob + k, none⟩) hbb').trans (cb k hkm)
      have hol : out.length = n + 1 := hp.1
      have g2 := hblk.cell (j := k) (by omega)
      have g3 := hblk.free k
      have hxk := hp.2.1 k
      have hyk := Hy.out.all k
      have Hl := Lib.hid hl; have Hol := Lib.hid hol
      clear gb cb hl hbb hol
      generalize hxx : out.getD k 0 = x at *
      generalize hyy : ys.getD k 0 = y at *
      have Hxx := Lib.hid hxx; have Hyy := Lib.hid hyy; clear hxx hyy
      go_wp2
      go_roundw
      case rel =>
        refine ⟨k + 1, _, by omega, by go_num, hblk.set k (by have := Hol.out; omega) (x + y), ?_, hbw.setCell (Nat.le_refl _) _⟩
        have := hp.step Hy.out (by have := Hl.out; omega) (by omega)
        rw [Hxx.out, Hyy.out] at this
        exact this
      case measure => simp [intOf]; omega
    · obtain rfl : k = m := by omega
      go_wp2_with fail
      go_loopw [40] (fun v wr => ∃ (k : Nat) (out : List Int), k ≤ n ∧ v = .int .i64 k ∧ Blk wr g out ∧ P2 (val xs + val ys) n k out ∧ Below g w wr) (fun v _ => n - (intOf v).toNat)
      case atStart => exact ⟨0, _, Nat.zero_le _, rfl, hblk, P2.start hp Hb.out.len, hbw⟩
      case round =>
        clear hp hblk hbw
        obtain ⟨k, out, hk, rfl, hblk, hp, hbw⟩ := hrel
        have hol : out.length = n + 1 := hp.1
        have Hol := Lib.hid hol; clear hol
        by_cases hkn : k < n
        · have g2 := hblk.cell (j := k) (by have := Hol.out; omega)
          have g3 := hblk.free k
          have g4 := hblk.free (k + 1)
          have g5 := hblk.cell (j := k + 1) (by have := Hol.out; omega)
          have hxk := hp.2.1 k
          have hyk := hp.2.1 (k + 1)
          have g6 := (World.cell?_setCell_other (w := wr) (a := ⟨g, k, none⟩) (b := ⟨g, k + 1, none⟩) (v := .int .i64 (out.getD k 0 - 1000000000)) (by simp)).trans g5
          clear g5
          generalize hxx : out.getD k 0 = x at *
          generalize hyy : out.getD (k + 1) 0 = y at *
          have Hxx := Lib.hid hxx; have Hyy := Lib.hid hyy; clear hxx hyy
          by_cases hc : 1000000000 ≤ x
          · go_wp2
            go_roundw
            case rel =>
              refine ⟨k + 1, _, by omega, by go_num, (hblk.set k (by have := Hol.out; omega) (x - 1000000000)).set (k + 1) (by have := Hol.out; simp; omega) (y + 1), ?_, (hbw.setCell (Nat.le_refl _) _).setCell (Nat.le_refl _) _⟩
              have := hp.more hkn (by rw [Hxx.out]; exact hc)
              rw [Hxx.out, Hyy.out] at this
              exact this
            case measure => simp [intOf]; omega
          · go_wp2
            go_roundw
            case rel => exact ⟨k + 1, out, by omega, by go_num, hblk, hp.less hkn (by rw [Hxx.out]; omega), hbw⟩
            case measure => simp [intOf]; omega
        · obtain rfl : k = n := by omega
          obtain ⟨hd, hv⟩ := hp.dig
          have Hv := Lib.hid hv; clear hv
          have hsl := hblk.sl (c := k + 1) (by have := Hol.out; omega)
          rw [Hol.out] at hsl
          go_wp2_with fail
          refine (trim_any out _ _ _ _ hsl hd (by omega)).mono ?_
          rintro e w' ⟨q, rfl, hq, hqd, rfl⟩
          have Hqd := Lib.hid hqd; clear hqd
          have Hq := Lib.hid hq; clear hq
          go_wp2
          go_ret
          refine ⟨_, _, _, rfl, ?_, by rw [Hg.out]; exact hbw, Fresh.mk (by rw [Hg.out]; omega) _⟩
          have := hsl.pre (k := q) (by have := Hq.out; have := Hol.out; omega)
          rw [Hqd.out, Hv.out] at this
          exact this
set_option maxRecDepth 100000 in
set_option maxHeartbeats 800000 in
/-- Plus, the longer one behind. -/
theorem plus_lt (xs ys : List Int) (a b : Option Addr) (n m c d : Nat) (w : World) (ha : SL w.heap.size w a n c xs) (hb : SL w.heap.size w b m d ys) (hn : n ≤ 1000000) (hm : m < n) (hx : Dig xs) (hy : Dig ys) :
    Calls Tryz.prog 105 #[.slice b m d, .slice a n c] w (RetS w (digs (val xs + val ys).toNat)) := by
  have Ha := Lib.hid ha; have Hb := Lib.hid hb; clear ha hb
  have Hx := Lib.hid hx; have Hy := Lib.hid hy; clear hx hy
  go_enter Tryz.func105, Tryz.ntmps105
  go_wp2_with (refine wpList_make_ints rfl (.tmp 18) (.tmp 18) 182 rfl Tryz.underlying182 ((n : Int) + 1) (n + 1) rfl rfl rfl (by omega) ?_)
  intro w1 hz1 hb1
  have hgs := hz1.lt
  generalize hg : w.heap.size = g at *
  have Hg := Lib.hid hg; clear hg
  go_wp2_with (refine wpList_copy_ints rfl (.tmp 20) (.tmp 21) 182 182 rfl Tryz.underlying182 g (n + 1) (n + 1) _ n c rfl rfl g xs _ (Ha.out.below hb1 (Nat.le_refl _)) hz1 (by simp) (by rw [← Ha.out.len]; simp) g w hb1 (Nat.le_refl _) ?_)
  intro w2 hz2 hb2
  clear hz1 hb1 hgs
  go_wp2_with fail
  go_loopw [25] (fun v wr => ∃ (k : Nat) (out : List Int), k ≤ m ∧ v = .int .i64 k ∧ Blk wr g out ∧ P1 xs ys n k out ∧ Below g w wr) (fun v _ => m - (intOf v).toNat)
  case atStart => exact ⟨0, _, Nat.zero_le _, rfl, hz2, P1.start Hx.out Ha.out.len, hb2⟩
  case round =>
    obtain ⟨k, out, hk, rfl, hblk, hp, hbw⟩ := hrel
    by_cases hkm : k < m
    · obtain ⟨hl, _, gb⟩ := Hb.out
      obtain ⟨bb, ob, rfl, hbb, cb⟩ := gb (by omega)
      have hbb' : bb < g := hbb
      have g1 := (hbw.cell (p := ⟨bb, ob + k, none⟩) hbb').trans (cb k hkm)
      have hol : out.length = n + 1 := hp.1
      have g2 := hblk.cell (j := k) (by omega)
      have g3 := hblk.free k
      have hxk := hp.2.1 k
      have hyk := Hy.out.all k
      have Hl := Lib.hid hl; have Hol := Lib.hid hol
      clear gb cb hl hbb hol
      generalize hxx : out.getD k 0 = x at *
      generalize hyy : ys.getD k 0 = y at *
      have Hxx := Lib.hid hxx; have Hyy := Lib.hid hyy; clear hxx hyy
      go_wp2
      go_roundw
      case rel =>
        refine ⟨k + 1, _, by omega, by go_num, hblk.set k (by have := Hol.out; omega) (x + y), ?_, hbw.setCell (Nat.le_refl _) _⟩
        have := hp.step Hy.out (by have := Hl.out; omega) (by omega)
        rw [Hxx.out, Hyy.out] at this
        exact this
      case measure => simp [intOf]; omega
    · obtain rfl : k = m := by omega
      go_wp2_with fail
      go_loopw [40] (fun v wr => ∃ (k : Nat) (out : List Int), k ≤ n ∧ v = .int .i64 k ∧ Blk wr g out ∧ P2 (val xs + val ys) n k out ∧ Below g w wr) (fun v _ => n - (intOf v).toNat)
      case atStart => exact ⟨0, _, Nat.zero_le _, rfl, hblk, P2.start hp Hb.out.len, hbw⟩
      case round =>
        clear hp hblk hbw
        obtain ⟨k, out, hk, rfl, hblk, hp, hbw⟩ := hrel
        have hol : out.length = n + 1 := hp.1
        have Hol := Lib.hid hol; clear hol
        by_cases hkn : k < n
        · have g2 := hblk.cell (j := k) (by have := Hol.out; omega)
          have g3 := hblk.free k
          have g4 := hblk.free (k + 1)
          have g5 := hblk.cell (j := k + 1) (by have := Hol.out; omega)
          have hxk := hp.2.1 k
          have hyk := hp.2.1 (k + 1)
          have g6 := (World.cell?_setCell_other (w := wr) (a := ⟨g, k, none⟩) (b := ⟨g, k + 1, none⟩) (v := .int .i64 (out.getD k 0 - 1000000000)) (by simp)).trans g5
          clear g5
          generalize hxx : out.getD k 0 = x at *
          generalize hyy : out.getD (k + 1) 0 = y at *
          have Hxx := Lib.hid hxx; have Hyy := Lib.hid hyy; clear hxx hyy
          by_cases hc : 1000000000 ≤ x
          · go_wp2
            go_roundw
            case rel =>
              refine ⟨k + 1, _, by omega, by go_num, (hblk.set k (by have := Hol.out; omega) (x - 1000000000)).set (k + 1) (by have := Hol.out; simp; omega) (y + 1), ?_, (hbw.setCell (Nat.le_refl _) _).setCell (Nat.le_refl _) _⟩
              have := hp.more hkn (by rw [Hxx.out]; exact hc)
              rw [Hxx.out, Hyy.out] at this
              exact this
            case measure => simp [intOf]; omega
          · go_wp2
            go_roundw
            case rel => exact ⟨k + 1, out, by omega, by go_num, hblk, hp.less hkn (by rw [Hxx.out]; omega), hbw⟩
            case measure => simp [intOf]; omega
        · obtain rfl : k = n := by omega
          obtain ⟨hd, hv⟩ := hp.dig
          have Hv := Lib.hid hv; clear hv
          have hsl := hblk.sl (c := k + 1) (by have := Hol.out; omega)
          rw [Hol.out] at hsl
          go_wp2_with fail
          refine (trim_any out _ _ _ _ hsl hd (by omega)).mono ?_
          rintro e w' ⟨q, rfl, hq, hqd, rfl⟩
          have Hqd := Lib.hid hqd; clear hqd
          have Hq := Lib.hid hq; clear hq
          go_wp2
          go_ret
          refine ⟨_, _, _, rfl, ?_, by rw [Hg.out]; exact hbw, Fresh.mk (by rw [Hg.out]; omega) _⟩
          have := hsl.pre (k := q) (by have := Hq.out; have := Hol.out; omega)
          rw [Hqd.out, Hv.out] at this
          exact this

theorem plus_any (x y : Nat) (a b : Option Addr) (n m c d : Nat) (w : World) (ha : SL w.heap.size w a n c (digs x)) (hb : SL w.heap.size w b m d (digs y)) (hn : n ≤ 1000000) (hm : m ≤ 1000000) :
    Calls Tryz.prog 105 #[.slice a n c, .slice b m d] w (RetS w (digs (x + y))) := by
  by_cases h : m ≤ n
  · have := plus_ge _ _ a b n m c d w ha hb hn h (dig_digs x) (dig_digs y)
    rw [val_digs, val_digs] at this
    exact this
  · have := plus_lt _ _ b a m n d c w hb ha hm (by omega) (dig_digs y) (dig_digs x)
    rw [val_digs, val_digs, Int.add_comm] at this
    exact this

end Go.Proofs.YthommhfppeonpaaGreatDoor

namespace Go.Proofs.YthommhfppeonpaaGreatDoor
open Go.RowKit

set_option maxHeartbeats 400000 in
theorem clone_any (zs : List Int) (a : Option Addr) (n c : Nat) (w : World) (h : SL w.heap.size w a n c zs) (hn : n ≤ 1000000) :
    Calls Tryz.prog 132 #[.slice a n c] w (RetOwn w zs) := by
  have H := Lib.hid h; clear h
  have heq := fun w => Lib.run_eql_slice_nil (P := Tryz.prog) w 182 3 a n c 0 0 Tryz.underlying182
  cases a with
  | none =>
    go_enter Tryz.func132, Tryz.ntmps132
    go_wp2
    go_ret
    refine ⟨_, rfl, Or.inl ⟨rfl, ?_⟩, Below.refl _ _⟩
    have := H.out
    refine List.eq_nil_of_length_eq_zero (Decidable.byContradiction fun hcon => ?_)
    obtain ⟨b, off, e, _⟩ := this.2.2 (by have := this.1; omega)
    cases e
  | some ad =>
    go_enter Tryz.func132, Tryz.ntmps132
    go_wp2_with (refine wpList_append_ints rfl (.tmp 5) (.tmp 6) 182 rfl Tryz.underlying182 w.heap.size _ 0 [] rfl (World.ownsRow_made w #[] 0 (Nat.le_refl _) (by simp) rfl) w.heap.size (some ad) n c zs rfl (H.out.below ((Below.refl _ _).alloc (Nat.le_refl _) _) (Nat.le_refl _)) (by simp) (by omega) (by simp) ?_)
    intro v' w1 hown hgrow
    have hbel : Below w.heap.size w w1 := ((Below.refl _ _).alloc (Nat.le_refl _) _).grown hgrow (by simp) (by intro k hk; simp [Value.ownBlock] at hk; omega)
    have hcs := owns_cells hown
    have Hcs := Lib.hid hcs; clear hcs hown hgrow
    go_wp2
    go_ret
    refine ⟨v', rfl, ?_, hbel⟩
    obtain ⟨_, h2⟩ := Hcs.out
    have hl := H.out.len
    rcases h2 with ⟨rfl, h0⟩ | ⟨g, cap, rfl, hg, hc, hcells⟩
    · exact Or.inl ⟨rfl, List.eq_nil_of_length_eq_zero (by omega)⟩
    · exact Or.inr ⟨g, cap, by rw [hl], by omega, hg, hcells⟩

/-- Minus, the second loop: the first k borrows are taken. -/
def M2 (v : Int) (n k : Nat) (out : List Int) : Prop :=
  out.length = n ∧ (∀ j, -1000000000 ≤ out.getD j 0 ∧ out.getD j 0 < 1000000000) ∧ (∀ j, j < k → 0 ≤ out.getD j 0) ∧ (∀ j, k < j → -999999999 ≤ out.getD j 0) ∧ val out = v

/-- Minus, the first loop -/
def M1 (xs ys : List Int) (n k : Nat) (out : List Int) : Prop :=
  out.length = n ∧ (∀ j, -999999999 ≤ out.getD j 0 ∧ out.getD j 0 < 1000000000) ∧ (∀ j, k ≤ j → 0 ≤ out.getD j 0) ∧ val out = val xs - val (ys.take k)

theorem M1.start {xs ys : List Int} (hx : Dig xs) : M1 xs ys xs.length 0 xs :=
  ⟨rfl, fun j => ⟨by have := (hx.all j).1; omega, (hx.all j).2⟩, fun j _ => (hx.all j).1, by simp [val]⟩

theorem M1.step {xs ys out : List Int} {n k : Nat} (h : M1 xs ys n k out) (hy : Dig ys) (hk : k < ys.length) (hkn : k < n) : M1 xs ys n (k + 1) (out.set k (out.getD k 0 - ys.getD k 0)) := by
  obtain ⟨h1, h2, h3, h4⟩ := h
  have a := hy.all k
  have b := h3 k (Nat.le_refl _)
  have b2 := (h2 k).2
  refine ⟨by simpa using h1, fun j => ?_, fun j hj => ?_, ?_⟩
  · rw [getD_set]; split
    · omega
    · exact h2 j
  · rw [getD_set, if_neg (by omega)]; exact h3 j (by omega)
  · rw [val_set (by omega), h4, val_take_succ hk, show out.getD k 0 - ys.getD k 0 - out.getD k 0 = -ys.getD k 0 by omega, Int.neg_mul]; omega

theorem M2.start {xs ys out : List Int} {n m : Nat} (h : M1 xs ys n m out) (hm : m = ys.length) : M2 (val xs - val ys) n 0 out := by
  obtain ⟨h1, h2, h3, h4⟩ := h
  exact ⟨h1, fun j => ⟨by have := (h2 j).1; omega, (h2 j).2⟩, fun j hj => absurd hj (by omega), fun j _ => (h2 j).1, by rw [h4, hm, List.take_length]⟩

theorem M2.less {v : Int} {n k : Nat} {out : List Int} (h : M2 v n k out) (hs : 0 ≤ out.getD k 0) : M2 v n (k + 1) out := by
  obtain ⟨h1, h2, h3, h4, h5⟩ := h
  refine ⟨h1, h2, fun j hj => ?_, fun j hj => h4 j (by omega), h5⟩
  by_cases e : j = k
  · subst e; exact hs
  · exact h3 j (by omega)

/-- where all digits below are 0 or more, and the highest is negative, the value is negative -/
theorem val_neg_of {l : List Int} {k : Nat} (h : ∀ j, j < l.length → l.getD j 0 < 1000000000) (hk : k < l.length) (hl : k + 1 = l.length) (hn : l.getD k 0 < 0) : val l < 0 := by
  have e : l = l.take (k + 1) := by rw [List.take_of_length_le (by omega)]
  rw [e, val_take_succ hk]
  have hlt : val (l.take k) < 1000000000 ^ k := by
    have : ∀ (m : List Int), (∀ j, j < m.length → m.getD j 0 < 1000000000) → val m < 1000000000 ^ m.length := by
      intro m
      induction m with
      | nil => intro _; simp [val]
      | cons d m ih =>
        intro hh
        have h0 := hh 0 (by simp)
        have := ih (fun j hj => by simpa using hh (j + 1) (by simpa using hj))
        simp only [List.getD_cons_zero] at h0
        simp only [val, List.length_cons, Int.pow_succ]; omega
    have h2 := this (l.take k) (fun j hj => by rw [getD_take (by rw [List.length_take] at hj; omega)]; exact h j (by rw [List.length_take] at hj; omega))
    rw [List.length_take, Nat.min_eq_left (by omega)] at h2; exact h2
  have hp : (0 : Int) < 1000000000 ^ k := Int.pow_pos (by omega)
  have : l.getD k 0 * 1000000000 ^ k ≤ -1 * 1000000000 ^ k := Int.mul_le_mul_of_nonneg_right (by omega) (by omega)
  omega

/-- the highest digit of a value that is not negative is never borrowed from -/
theorem M2.last {v : Int} {n k : Nat} {out : List Int} (h : M2 v n k out) (hv : 0 ≤ v) (hk : k < n) (hs : out.getD k 0 < 0) : k + 1 < n := by
  obtain ⟨h1, h2, h3, h4, h5⟩ := h
  apply Decidable.byContradiction; intro hc
  have := val_neg_of (l := out) (k := k) (fun j _ => (h2 j).2) (by omega) (by omega) hs
  omega

theorem M2.more {v : Int} {n k : Nat} {out : List Int} (h : M2 v n k out) (hk : k + 1 < n) (hs : out.getD k 0 < 0) :
    M2 v n (k + 1) ((out.set k (out.getD k 0 + 1000000000)).set (k + 1) (out.getD (k + 1) 0 - 1)) := by
  obtain ⟨h1, h2, h3, h4, h5⟩ := h
  have a := h2 k; have b := h2 (k + 1); have c := h4 (k + 1) (by omega)
  refine ⟨by simpa using h1, fun j => ?_, fun j hj => ?_, fun j hj => ?_, ?_⟩
  · rw [getD_set, getD_set]; split
    · omega
    · split
      · omega
      · exact h2 j
  · rw [getD_set, getD_set]; split
    · omega
    · split
      · omega
      · exact h3 j (by omega)
  · rw [getD_set, getD_set, if_neg (by omega), if_neg (by omega)]; exact h4 j (by omega)
  · rw [val_set (by simp; omega), val_set (by omega), getD_set, if_neg (by omega), h5, Int.pow_succ]
    generalize (1000000000 : Int) ^ k = p
    generalize out.getD k 0 = x
    rw [show x + 1000000000 - x = 1000000000 by omega, show out.getD (k + 1) 0 - 1 - out.getD (k + 1) 0 = -1 by omega]
    omega

theorem M2.dig {v : Int} {n : Nat} {out : List Int} (h : M2 v n n out) : Dig out ∧ val out = v := by
  obtain ⟨h1, h2, h3, h4, h5⟩ := h
  exact ⟨fun j hj => ⟨h3 j (by omega), (h2 j).2⟩, h5⟩

set_option maxRecDepth 100000 in
set_option maxHeartbeats 800000 in
theorem minus_raw (xs ys : List Int) (a b : Option Addr) (n m c d : Nat) (w : World) (ha : SL w.heap.size w a n c xs) (hb : SL w.heap.size w b m d ys) (hn : n ≤ 1000000) (hm : m ≤ n) (hx : Dig xs) (hy : Dig ys) (hle : val ys ≤ val xs) :
    Calls Tryz.prog 107 #[.slice a n c, .slice b m d] w (RetS w (digs (val xs - val ys).toNat)) := by
  have Ha := Lib.hid ha; have Hb := Lib.hid hb; clear ha hb
  have Hx := Lib.hid hx; have Hy := Lib.hid hy; have Hle := Lib.hid hle; clear hx hy hle
  go_enter Tryz.func107, Tryz.ntmps107
  go_wp2_with fail
  refine (clone_any xs a n c w Ha.out hn).mono ?_
  rintro e w1 ⟨v, rfl, hv, hb1⟩
  have hl := Ha.out.len
  have Hl := Lib.hid hl; clear hl
  rcases hv with ⟨rfl, hnil⟩ | ⟨g, cc, rfl, hcc, hg, hblk⟩
  · have Hnil := Lib.hid hnil; clear hnil
    obtain rfl : n = 0 := by have := Hl.out; rw [Hnil.out] at this; simpa using this
    obtain rfl : m = 0 := by omega
    go_wp2_with fail
    refine wp_loop_rounds 1 ?_
    rw [rounds_succ]
    go_wp2_with fail
    refine wp_loop_rounds 1 ?_
    rw [rounds_succ]
    go_wp2_with fail
    refine (trim_any [] none 0 0 w1 (SL.nil _ _ _ _) Dig.nil (by omega)).mono ?_
    rintro e w' ⟨q, rfl, hq, hqd, rfl⟩
    obtain rfl : q = 0 := by simpa using hq
    go_wp2
    go_ret
    refine ⟨_, _, _, rfl, ?_, hb1, Fresh.ofNone _ _⟩
    have e1 : val ys = 0 := by
      have := Hb.out.len
      have h2 : ys = [] := List.eq_nil_of_length_eq_zero (by omega)
      rw [h2]; rfl
    have e2 : val xs = 0 := by rw [Hnil.out]; rfl
    rw [e1, e2, show ((0 : Int) - 0).toNat = 0 from rfl, digs_zero]
    exact SL.nil _ _ _ _
  · obtain rfl : n = xs.length := Hl.out
    generalize hgB : w.heap.size = B at *
    have HgB := Lib.hid hgB; clear hgB
    go_wp2_with fail
    go_loopw [13] (fun v wr => ∃ (k : Nat) (out : List Int), k ≤ m ∧ v = .int .i64 k ∧ Blk wr g out ∧ M1 xs ys xs.length k out ∧ Below B w wr) (fun v _ => m - (intOf v).toNat)
    case atStart => exact ⟨0, _, Nat.zero_le _, rfl, hblk, M1.start Hx.out, hb1⟩
    case round =>
      obtain ⟨k, out, hk, rfl, hblk, hp, hbw⟩ := hrel
      by_cases hkm : k < m
      · obtain ⟨hl, _, gb⟩ := Hb.out
        obtain ⟨bb, ob, rfl, hbb, cb⟩ := gb (by omega)
        have hbb' : bb < B := hbb
        have g1 := (hbw.cell (p := ⟨bb, ob + k, none⟩) hbb').trans (cb k hkm)
        have hol : out.length = xs.length := hp.1
        have g2 := hblk.cell (j := k) (by omega)
        have g3 := hblk.free k
        have hxk := hp.2.1 k
        have hyk := Hy.out.all k
        have Hll := Lib.hid hl; have Hol := Lib.hid hol
        clear gb cb hl hbb hol
        generalize hxx : out.getD k 0 = x at *
        generalize hyy : ys.getD k 0 = y at *
        have Hxx := Lib.hid hxx; have Hyy := Lib.hid hyy; clear hxx hyy
        go_wp2
        go_roundw
        case rel =>
          refine ⟨k + 1, _, by omega, by go_num, hblk.set k (by have := Hol.out; omega) (x - y), ?_, hbw.setCell hg _⟩
          have := hp.step Hy.out (by have := Hll.out; omega) (by omega)
          rw [Hxx.out, Hyy.out] at this
          exact this
        case measure => simp [intOf]; omega
      · obtain rfl : k = m := by omega
        have hvv : 0 ≤ val xs - val ys := by have := Hle.out; omega
        go_wp2_with fail
        go_loopw [28] (fun v wr => ∃ (k : Nat) (out : List Int), k ≤ xs.length ∧ v = .int .i64 k ∧ Blk wr g out ∧ M2 (val xs - val ys) xs.length k out ∧ Below B w wr) (fun v _ => xs.length - (intOf v).toNat)
        case atStart => exact ⟨0, _, Nat.zero_le _, rfl, hblk, M2.start hp Hb.out.len, hbw⟩
        case round =>
          clear hp hblk hbw
          obtain ⟨k, out, hk, rfl, hblk, hp, hbw⟩ := hrel
          have hol : out.length = xs.length := hp.1
          have Hol := Lib.hid hol; clear hol
          by_cases hkn : k < xs.length
          · have g2 := hblk.cell (j := k) (by have := Hol.out; omega)
            have g3 := hblk.free k
            have hxk := hp.2.1 k
            by_cases hc : out.getD k 0 < 0
            · have hlast := hp.last hvv hkn hc
              have g4 := hblk.free (k + 1)
              have g5 := hblk.cell (j := k + 1) (by have := Hol.out; omega)
              have hyk := hp.2.1 (k + 1)
              have g6 := (World.cell?_setCell_other (w := wr) (a := ⟨g, k, none⟩) (b := ⟨g, k + 1, none⟩) (v := .int .i64 (out.getD k 0 + 1000000000)) (by simp)).trans g5
              clear g5
              generalize hxx : out.getD k 0 = x at *
              generalize hyy : out.getD (k + 1) 0 = y at *
              have Hxx := Lib.hid hxx; have Hyy := Lib.hid hyy; clear hxx hyy
              go_wp2
              go_roundw
              case rel =>
                refine ⟨k + 1, _, by omega, by go_num, (hblk.set k (by have := Hol.out; omega) (x + 1000000000)).set (k + 1) (by have := Hol.out; simp; omega) (y - 1), ?_, (hbw.setCell hg _).setCell hg _⟩
                have := hp.more hlast (by rw [Hxx.out]; exact hc)
                rw [Hxx.out, Hyy.out] at this
                exact this
              case measure => simp [intOf]; omega
            · generalize hxx : out.getD k 0 = x at *
              have Hxx := Lib.hid hxx; clear hxx
              go_wp2
              go_roundw
              case rel => exact ⟨k + 1, out, by omega, by go_num, hblk, hp.less (by rw [Hxx.out]; omega), hbw⟩
              case measure => simp [intOf]; omega
          · obtain rfl : k = xs.length := by omega
            obtain ⟨hd, hv⟩ := hp.dig
            have Hv := Lib.hid hv; clear hv
            have hsl := hblk.sl (c := cc) (by have := Hol.out; omega)
            rw [Hol.out] at hsl
            go_wp2_with fail
            refine (trim_any out _ _ _ _ hsl hd (by omega)).mono ?_
            rintro e w' ⟨q, rfl, hq, hqd, rfl⟩
            have Hqd := Lib.hid hqd; clear hqd
            have Hq := Lib.hid hq; clear hq
            go_wp2
            go_ret
            refine ⟨_, _, _, rfl, ?_, by rw [HgB.out]; exact hbw, Fresh.mk (by rw [HgB.out]; exact hg) _⟩
            have := hsl.pre (k := q) (by have := Hq.out; have := Hol.out; omega)
            rw [Hqd.out, Hv.out] at this
            exact this

theorem minus_any (x y : Nat) (a b : Option Addr) (n m c d : Nat) (w : World) (ha : SL w.heap.size w a n c (digs x)) (hb : SL w.heap.size w b m d (digs y)) (hn : n ≤ 1000000) (hle : y ≤ x) :
    Calls Tryz.prog 107 #[.slice a n c, .slice b m d] w (RetS w (digs (x - y))) := by
  have := minus_raw _ _ a b n m c d w ha hb hn (by rw [ha.len, hb.len]; exact length_digs_mono hle) (dig_digs x) (dig_digs y) (by rw [val_digs, val_digs]; omega)
  rw [val_digs, val_digs, show ((x : Int) - y).toNat = x - y by omega] at this
  exact this

end Go.Proofs.YthommhfppeonpaaGreatDoor

namespace Go.Proofs.YthommhfppeonpaaGreatDoor
open Go.RowKit

/-- Times, behind the first i digits -/
def T1 (xs ys : List Int) (i : Nat) (out : List Int) : Prop :=
  out.length = xs.length + ys.length ∧ (∀ j, 0 ≤ out.getD j 0 ∧ out.getD j 0 < 1000000000) ∧ (∀ j, i + ys.length ≤ j → out.getD j 0 = 0) ∧ val out = val (xs.take i) * val ys

/-- Times, in round i behind the first k digits -/
def T2 (xs ys : List Int) (i k : Nat) (carry : Int) (out : List Int) : Prop :=
  out.length = xs.length + ys.length ∧ (∀ j, 0 ≤ out.getD j 0 ∧ out.getD j 0 < 1000000000) ∧ (∀ j, i + ys.length ≤ j → out.getD j 0 = 0) ∧ 0 ≤ carry ∧ carry < 1000000000 ∧
    val out + carry * 1000000000 ^ (i + k) = val (xs.take i) * val ys + xs.getD i 0 * val (ys.take k) * 1000000000 ^ i

theorem T1.start (xs ys : List Int) : T1 xs ys 0 (List.replicate (xs.length + ys.length) 0) := by
  have e : ∀ j, (List.replicate (xs.length + ys.length) (0 : Int)).getD j 0 = 0 := fun j => by
    simp only [List.getD_eq_getElem?_getD, List.getElem?_replicate]; split <;> rfl
  refine ⟨by simp, fun j => by rw [e]; omega, fun j _ => e j, ?_⟩
  rw [val_replicate]; simp [val]

theorem T2.start {xs ys out : List Int} {i : Nat} (h : T1 xs ys i out) : T2 xs ys i 0 0 out := by
  obtain ⟨h1, h2, h3, h4⟩ := h
  exact ⟨h1, h2, h3, by omega, by omega, by rw [h4]; simp [val]⟩

theorem mul_bounds {x y : Int} (hx : 0 ≤ x ∧ x < 1000000000) (hy : 0 ≤ y ∧ y < 1000000000) : 0 ≤ x * y ∧ x * y ≤ 999999998000000001 := by
  refine ⟨Int.mul_nonneg hx.1 hy.1, ?_⟩
  have a : x * y ≤ 999999999 * y := Int.mul_le_mul_of_nonneg_right (by omega) hy.1
  omega

theorem T2.step {xs ys out : List Int} {i k : Nat} {carry : Int} (h : T2 xs ys i k carry out) (hx : Dig xs) (hy : Dig ys) (hi : i < xs.length) (hk : k < ys.length) :
    T2 xs ys i (k + 1) ((out.getD (i + k) 0 + xs.getD i 0 * ys.getD k 0 + carry) / 1000000000) (out.set (i + k) ((out.getD (i + k) 0 + xs.getD i 0 * ys.getD k 0 + carry) % 1000000000)) := by
  obtain ⟨h1, h2, h3, h4, h5, h6⟩ := h
  have a := h2 (i + k)
  have b := mul_bounds (hx.all i) (hy.all k)
  generalize hn : out.getD (i + k) 0 + xs.getD i 0 * ys.getD k 0 + carry = n
  have hb : 0 ≤ n ∧ n ≤ 999999999999999999 := by omega
  refine ⟨by simpa using h1, fun j => ?_, fun j hj => ?_, by omega, by omega, ?_⟩
  · rw [getD_set]; split
    · omega
    · exact h2 j
  · rw [getD_set, if_neg (by omega)]; exact h3 j hj
  · rw [val_set (by omega), val_take_succ hk, show i + (k + 1) = (i + k) + 1 by omega, Int.pow_succ]
    have e : (n / 1000000000) * (1000000000 ^ (i + k) * 1000000000) = (1000000000 * (n / 1000000000)) * 1000000000 ^ (i + k) := by
      rw [Int.mul_comm (1000000000 ^ (i + k)) 1000000000, ← Int.mul_assoc, Int.mul_comm (n / 1000000000)]
    have e2 : (n % 1000000000 - out.getD (i + k) 0) * 1000000000 ^ (i + k) + (1000000000 * (n / 1000000000)) * 1000000000 ^ (i + k) = (n - out.getD (i + k) 0) * 1000000000 ^ (i + k) := by
      rw [← Int.add_mul]; congr 1; omega
    have e3 : (n - out.getD (i + k) 0) * 1000000000 ^ (i + k) = carry * 1000000000 ^ (i + k) + xs.getD i 0 * ys.getD k 0 * 1000000000 ^ (i + k) := by
      rw [← Int.add_mul]; congr 1; omega
    have e4 : xs.getD i 0 * (val (ys.take k) + ys.getD k 0 * 1000000000 ^ k) * 1000000000 ^ i = xs.getD i 0 * val (ys.take k) * 1000000000 ^ i + xs.getD i 0 * ys.getD k 0 * 1000000000 ^ (i + k) := by
      rw [Int.mul_add, Int.add_mul, Int.pow_add, ← Int.mul_assoc (xs.getD i 0) (ys.getD k 0), Int.mul_assoc (_ * _) (1000000000 ^ k), Int.mul_comm (1000000000 ^ k) (1000000000 ^ i)]
    rw [e4]
    omega

theorem T2.done {xs ys out : List Int} {i : Nat} {carry : Int} (h : T2 xs ys i ys.length carry out) (hi : i < xs.length) : T1 xs ys (i + 1) (out.set (i + ys.length) carry) := by
  obtain ⟨h1, h2, h3, h4, h5, h6⟩ := h
  refine ⟨by simpa using h1, fun j => ?_, fun j hj => ?_, ?_⟩
  · rw [getD_set]; split
    · omega
    · exact h2 j
  · rw [getD_set, if_neg (by omega)]; exact h3 j (by omega)
  · rw [val_set (by omega), h3 _ (Nat.le_refl _), val_take_succ hi, Int.sub_zero, h6, List.take_length, Int.add_mul, Int.mul_assoc (xs.getD i 0), Int.mul_assoc (xs.getD i 0), Int.mul_comm (val ys) (1000000000 ^ i)]

set_option maxRecDepth 100000 in
set_option maxHeartbeats 1000000 in
theorem times_raw (xs ys : List Int) (a b : Option Addr) (n m c d : Nat) (w : World) (ha : SL w.heap.size w a n c xs) (hb : SL w.heap.size w b m d ys) (hn : n ≤ 1000000) (hm : m ≤ 1000000) (hx : Dig xs) (hy : Dig ys) :
    Calls Tryz.prog 109 #[.slice a n c, .slice b m d] w (RetS w (digs (val xs * val ys).toNat)) := by
  have Ha := Lib.hid ha; have Hb := Lib.hid hb
  obtain rfl := ha.len
  obtain rfl := hb.len
  have Hx := Lib.hid hx; have Hy := Lib.hid hy; clear hx hy ha hb
  go_enter Tryz.func109, Tryz.ntmps109
  go_wp2_with (refine wpList_make_ints rfl (.tmp 16) (.tmp 16) 182 rfl Tryz.underlying182 ((xs.length : Int) + ys.length) (xs.length + ys.length) rfl rfl (by omega) (by omega) ?_)
  intro w1 hblk hb1
  generalize hgB : w.heap.size = g at *
  have HgB := Lib.hid hgB; clear hgB
  go_wp2_with fail
  go_loopw [20] (fun v wr => ∃ (i : Nat) (out : List Int), i ≤ xs.length ∧ v = .int .i64 i ∧ Blk wr g out ∧ T1 xs ys i out ∧ Below g w wr) (fun v _ => xs.length - (intOf v).toNat)
  case atStart => exact ⟨0, _, Nat.zero_le _, rfl, hblk, T1.start xs ys, hb1⟩
  case round =>
    clear hblk hb1
    obtain ⟨i, out, hi, rfl, hblk, hp, hbw⟩ := hrel
    by_cases hin : i < xs.length
    · obtain ⟨_, _, ga⟩ := Ha.out
      obtain ⟨ba, oa, rfl, hba, ca⟩ := ga (by omega)
      have hba' : ba < g := hba
      have g1 := (hbw.cell (p := ⟨ba, oa + i, none⟩) hba').trans (ca i hin)
      have hxi := Hx.out.all i
      clear ga ca hba
      generalize hxx : xs.getD i 0 = x at *
      have Hxx := Lib.hid hxx; clear hxx
      obtain ⟨wo, rfl⟩ : ∃ wo : World, wo = wr := ⟨_, rfl⟩
      go_wp2_with fail
      clear g1
      go_loopw [8, 27] (fun cv v wr => ∃ (k : Nat) (carry : Int) (out : List Int), k ≤ ys.length ∧ v = .int .i64 k ∧ cv = .int .i64 carry ∧ Blk wr g out ∧ T2 xs ys i k carry out ∧ Below g w wr) (fun _ v _ => ys.length - (intOf v).toNat)
      case atStart => exact ⟨0, 0, _, Nat.zero_le _, rfl, rfl, hblk, T2.start hp, hbw⟩
      case round =>
        clear hblk hp hbw
        obtain ⟨k, carry, out, hk, rfl, rfl, hblk, hp, hbw⟩ := hrel
        have hol : out.length = xs.length + ys.length := hp.1
        have Hol := Lib.hid hol; clear hol
        have hc0 := hp.2.2.2.1
        have hc1 := hp.2.2.2.2.1
        by_cases hkm : k < ys.length
        · obtain ⟨_, _, gb⟩ := Hb.out
          obtain ⟨bb, ob, rfl, hbb, cb⟩ := gb (by omega)
          have hbb' : bb < g := hbb
          have g1 := (hbw.cell (p := ⟨bb, ob + k, none⟩) hbb').trans (cb k hkm)
          have g2 := hblk.cell (j := i + k) (by have := Hol.out; omega)
          have g3 := hblk.free (i + k)
          have hyk := Hy.out.all k
          have hok := hp.2.1 (i + k)
          clear gb cb hbb
          generalize hyy : ys.getD k 0 = y at *
          generalize hoo : out.getD (i + k) 0 = z at *
          have Hyy := Lib.hid hyy; have Hoo := Lib.hid hoo; clear hyy hoo
          have hmul := mul_bounds hxi hyk
          obtain ⟨hm1, hm2⟩ := hmul
          go_wp2
          go_roundw
          case rel =>
            refine ⟨k + 1, _, _, by omega, by go_num, rfl, hblk.set (i + k) (by have := Hol.out; omega) _, ?_, hbw.setCell (Nat.le_refl _) _⟩
            have := hp.step Hx.out Hy.out hin hkm
            rw [Hxx.out, Hyy.out, Hoo.out] at this
            exact this
          case measure => simp [intOf]; omega
        · obtain rfl : k = ys.length := by omega
          have g3 := hblk.free (i + ys.length)
          have g2 := hblk.cell (j := i + ys.length) (by have := Hol.out; omega)
          go_wp2
          go_roundw
          case rel => exact ⟨i + 1, _, by omega, by go_num, hblk.set (i + ys.length) (by have := Hol.out; omega) carry, hp.done hin, hbw.setCell (Nat.le_refl _) _⟩
          case measure => simp [intOf]; omega
    · obtain rfl : i = xs.length := by omega
      obtain ⟨hol, hd, _, hv⟩ := hp
      have Hol := Lib.hid hol; have Hv := Lib.hid hv; clear hol hv
      have hsl := hblk.sl (c := xs.length + ys.length) (by have := Hol.out; omega)
      rw [Hol.out] at hsl
      go_wp2_with fail
      refine (trim_any out _ _ _ _ hsl (fun j _ => hd j) (by omega)).mono ?_
      rintro e w' ⟨q, rfl, hq, hqd, rfl⟩
      have Hqd := Lib.hid hqd; clear hqd
      have Hq := Lib.hid hq; clear hq
      go_wp2
      go_ret
      refine ⟨_, _, _, rfl, ?_, by rw [HgB.out]; exact hbw, Fresh.mk (by rw [HgB.out]; omega) _⟩
      have := hsl.pre (k := q) (by have := Hq.out; have := Hol.out; omega)
      rw [Hqd.out, Hv.out, List.take_length] at this
      exact this

theorem times_any (x y : Nat) (a b : Option Addr) (n m c d : Nat) (w : World) (ha : SL w.heap.size w a n c (digs x)) (hb : SL w.heap.size w b m d (digs y)) (hn : n ≤ 1000000) (hm : m ≤ 1000000) :
    Calls Tryz.prog 109 #[.slice a n c, .slice b m d] w (RetS w (digs (x * y))) := by
  have := times_raw _ _ a b n m c d w ha hb hn hm (dig_digs x) (dig_digs y)
  rw [val_digs, val_digs, ← Int.natCast_mul, Int.toNat_natCast] at this
  exact this
end Go.Proofs.YthommhfppeonpaaGreatDoor

namespace Go.Proofs.YthommhfppeonpaaGreatDoor
open Go.RowKit

/-- a valid long integer, as its sign and its slice, with the value z -/
def LG (N : Nat) (w : World) (s : Bool) (a : Option Addr) (n c : Nat) (z : Int) : Prop :=
  s = decide (z < 0) ∧ SL N w a n c (digs z.natAbs) ∧ n ≤ 600

theorem LG.below {N M w w' s a n c z} (h : LG N w s a n c z) (hb : Below M w w') (hN : N ≤ M) : LG N w' s a n c z := ⟨h.1, h.2.1.below hb hN, h.2.2⟩
theorem LG.mono {N M w s a n c z} (h : LG N w s a n c z) (hN : N ≤ M) : LG M w s a n c z := ⟨h.1, h.2.1.mono hN, h.2.2⟩
theorem LG.go {w w' s a n c z} (h : LG w.heap.size w s a n c z) (hb : Below w.heap.size w w') : LG w'.heap.size w' s a n c z := ⟨h.1, h.2.1.go hb, h.2.2⟩
theorem LG.zero (N : Nat) (w : World) (a : Option Addr) (c : Nat) : LG N w false a 0 c 0 := ⟨rfl, by simpa [digs_zero] using SL.nil N w a c, by omega⟩

set_option maxRecDepth 100000 in
set_option maxHeartbeats 400000 in
theorem check_ok (s : Bool) (z : Int) (a : Option Addr) (n c : Nat) (w : World) (h : LG w.heap.size w s a n c z) :
    Calls Tryz.prog 131 #[.agg #[.bool s, .slice a n c]] w (RetB w (.int .i64 0)) := by
  have hsl := h.2.1
  have hs := h.1
  have hn := h.2.2
  have hd := dig_digs z.natAbs
  have ht := top_digs z.natAbs
  have hl := hsl.len
  generalize hzs : digs z.natAbs = zs at *
  have Hs := Lib.hid hs; have Hd := Lib.hid hd; have H := Lib.hid hsl; have Hl := Lib.hid hl; have Ht := Lib.hid ht; have Hzs := Lib.hid hzs; clear hs hd hsl h hl ht hzs
  by_cases h0 : n = 0
  · have hsf : s = false := by
      rw [Hs.out]
      have := digs_len_zero.1 (by rw [Hzs.out, ← Hl.out]; exact h0)
      simp; omega
    subst h0 hsf
    go_enter Tryz.func131, Tryz.ntmps131
    go_wp2
    refine wp_loop_rounds 1 ?_
    rw [rounds_succ]
    go_wp2
    go_ret
    exact ⟨rfl, (Below.refl _ _).alloc (Nat.le_refl _) _⟩
  · obtain ⟨b, off, rfl, hb, ca⟩ := H.out.at (by omega)
    have hn0 : 0 < n := by omega
    have htop : zs.getD (n - 1) 0 ≠ 0 := by have := Ht.out; have e := Hl.out; rw [e] at hn0 ⊢; exact this hn0
    have g1 := ca (n - 1) (by omega)
    have g2 : ((n : Int) - 1).toNat = n - 1 := by omega
    have g3 : (zs.getD (n - 1) 0 == 0) = false := by simpa using htop
    have g4 : ((n : Int) == 0) = false := by simp; omega
    have Hca := Lib.hid ca
    clear ca h0 htop
    generalize hxx : zs.getD (n - 1) 0 = x at *
    have Hxx := Lib.hid hxx; clear hxx
    go_enter Tryz.func131, Tryz.ntmps131
    go_wp2
    clear g1 g2 g3
    go_loop [35] (fun v => ∃ k : Nat, k ≤ n ∧ v = .int .i64 k) (fun v => n - (intOf v).toNat)
    case atStart => exact ⟨0, Nat.zero_le _, rfl⟩
    case round =>
      obtain ⟨k, hk, rfl⟩ := hrel
      by_cases hkn : k < n
      · have g1 := Hca.out k (by omega)
        have g2 := Hd.out.all k
        generalize zs.getD k 0 = y at *
        go_wp2
        go_round
        case rel => exact ⟨k + 1, by omega, by go_num⟩
        case measure => simp [intOf]; omega
      · go_wp2
        go_ret
        exact ⟨rfl, (Below.refl _ _).alloc (Nat.le_refl _) _⟩

/-- a call that gives back a long integer and OK -/
def RetL (w : World) (z : Int) (e : Ending) (w' : World) : Prop :=
  ∃ s a n c, e = .returned (.tuple #[.agg #[.bool s, .slice a n c], .int .i64 0]) ∧ LG w'.heap.size w' s a n c z ∧ Below w.heap.size w w' ∧ Fresh w.heap.size a n

theorem told_post {w w1 : World} {o : Obj} (hb1 : Below (w.alloc o).heap.size (w.alloc o) w1) (u v : Value) (s : Bool) (a : Option Addr) (n c N : Nat) (hn : n ≤ 600)
    (hs : s = true → 0 < N) (h : SL w1.heap.size w1 a n c (digs N)) (hf : Fresh (w.heap.size + 1) a n) (z : Int) (hz : z = if s then -(N : Int) else N) :
    RetL w z (.returned (.tuple #[.agg #[.bool s, .slice a n c], .int .i64 0])) ((w1.setCell ⟨w.heap.size, 0, none⟩ u).setCell ⟨w.heap.size, 1, none⟩ v) := by
  have hne : ∀ b off, a = some ⟨b, off, none⟩ → 0 < n → b ≠ w.heap.size := fun b off e h0 => by have := hf b off e h0; omega
  refine ⟨s, a, n, c, rfl, ⟨?_, ?_, hn⟩, ((below_alloc hb1).setCell (Nat.le_refl _) _).setCell (Nat.le_refl _) _, hf.mono (by omega)⟩
  · subst hz; cases s
    · simp
    · have := hs rfl; simp; omega
  · have e : z.natAbs = N := by subst hz; cases s <;> simp
    rw [e]
    have := (h.setCell ⟨w.heap.size, 0, none⟩ u hne).setCell ⟨w.heap.size, 1, none⟩ v hne
    simpa using this

theorem LG.setCell {N w s a n c z} (h : LG N w s a n c z) (p : Addr) (u : Value) (hne : ∀ b off, a = some ⟨b, off, none⟩ → 0 < n → b ≠ p.block) : LG N (w.setCell p u) s a n c z :=
  ⟨h.1, h.2.1.setCell p u hne, h.2.2⟩

/-- a long integer and OK, the first one by way of a block of the call's own -/
theorem retL_mk {w w3 : World} {s : Bool} {a : Option Addr} {n c B : Nat} {z : Int} (hlg : LG w3.heap.size w3 s a n c z) (hb : Below w.heap.size w w3) (hf : Fresh B a n) (blk : Nat) (hblk : blk < B) (hw : w.heap.size ≤ blk) (u v : Value) :
    RetL w z (.returned (.tuple #[.agg #[.bool s, .slice a n c], .int .i64 0])) ((w3.setCell ⟨blk, 0, none⟩ u).setCell ⟨blk, 1, none⟩ v) := by
  have hne : ∀ b off, a = some ⟨b, off, none⟩ → 0 < n → b ≠ blk := fun b off e h0 => by have := hf b off e h0; omega
  refine ⟨s, a, n, c, rfl, ?_, (hb.setCell hw _).setCell hw _, hf.mono (by omega)⟩
  have := (hlg.setCell ⟨blk, 0, none⟩ u hne).setCell ⟨blk, 1, none⟩ v hne
  simpa using this

set_option maxHeartbeats 400000 in
theorem told_ok (s : Bool) (N : Nat) (a : Option Addr) (n c : Nat) (w : World) (h : SL w.heap.size w a n c (digs N)) (hn : n ≤ 600) :
    Calls Tryz.prog 104 #[.bool s, .slice a n c] w (RetL w (if s then -(N : Int) else N)) := by
  have H := Lib.hid h; clear h
  have hn' : n ≤ 1000000 := by omega
  have Hl := Lib.hid H.out.len
  rcases Nat.eq_zero_or_pos n with h0 | h0
  · subst h0
    obtain rfl : N = 0 := digs_len_zero.1 Hl.out.symm
    clear Hl
    have ez : (if s then -((0 : Nat) : Int) else ((0 : Nat) : Int)) = 0 := by cases s <;> rfl
    rw [ez]; clear ez
    cases s
    all_goals
      go_enter Tryz.func104, Tryz.ntmps104
      go_wp2_with fail
      refine (clone_any _ a 0 c _ (by simpa using H.out.alloc _) hn').mono ?_
      rintro e w1 ⟨v, rfl, hv, hb1⟩
      obtain ⟨k1, k2, k3⟩ := kept_new hb1
      have k10 := k1 0
      have k11 := k1 1
      have k20 := k2 0
      have k21 := k2 1
      simp at k10 k11
      clear k1 k2
      rcases hv with ⟨rfl, _⟩ | ⟨g, cc, rfl, hcc, hg, hblk⟩
      · go_wp2
        refine bodyPost_ret (v := .tuple #[.agg #[.bool false, .slice none 0 0], .int .i64 0]) ?_ rfl ?_
        · simp [results, Tryz.results104, go_sem, k10, k11]
        · exact told_post hb1 _ _ _ _ _ _ 0 (by omega) (by simp) (by rw [digs_zero]; exact SL.nil _ _ _ _) (Fresh.zero _ _) _ (by simp)
      · rw [digs_zero] at hcc ⊢
        clear hblk
        go_wp2
        refine bodyPost_ret (v := .tuple #[.agg #[.bool false, .slice (some ⟨g, 0, none⟩) 0 cc], .int .i64 0]) ?_ rfl ?_
        · simp [results, Tryz.results104, go_sem, k10, k11]
        · exact told_post hb1 _ _ _ _ _ _ 0 (by omega) (by simp) (by rw [digs_zero]; exact SL.nil _ _ _ _) (Fresh.zero _ _) _ (by simp)
  · cases s
    all_goals
      go_enter Tryz.func104, Tryz.ntmps104
      go_wp2_with fail
      refine (clone_any _ a n c _ (by simpa using H.out.alloc _) hn').mono ?_
      rintro e w1 ⟨v, rfl, hv, hb1⟩
      obtain ⟨k1, k2, k3⟩ := kept_new hb1
      have k10 := k1 0
      have k11 := k1 1
      have k20 := k2 0
      have k21 := k2 1
      simp at k10 k11
      clear k1 k2
      rcases hv with ⟨rfl, hnil⟩ | ⟨g, cc, rfl, hcc, hg, hblk⟩
      · exact absurd (by have := Hl.out; rw [hnil] at this; exact this) (by omega : n ≠ 0)
      · go_wp2
        first
          | (refine bodyPost_ret (v := .tuple #[.agg #[.bool false, .slice (some ⟨g, 0, none⟩) (digs N).length cc], .int .i64 0]) ?_ rfl ?_; · (simp [results, Tryz.results104, go_sem, k10, k11]; done))
          | (refine bodyPost_ret (v := .tuple #[.agg #[.bool true, .slice (some ⟨g, 0, none⟩) (digs N).length cc], .int .i64 0]) ?_ rfl ?_; · (simp [results, Tryz.results104, go_sem, k10, k11]; done))
        refine told_post hb1 _ _ _ _ _ _ N (by rw [← Hl.out]; omega) (fun _ => ?_) (hblk.sl hcc) (Fresh.mk (by simp at hg; omega) _) _ (by simp)
        exact Nat.pos_of_ne_zero fun e => by have := digs_len_zero.2 e; have := Hl.out; omega

end Go.Proofs.YthommhfppeonpaaGreatDoor

namespace Go.Proofs.YthommhfppeonpaaGreatDoor
open Go.RowKit

/-- a call that gives back a long integer -/
def RetL1 (w : World) (z : Int) (e : Ending) (w' : World) : Prop :=
  ∃ s a n c, e = .returned (.agg #[.bool s, .slice a n c]) ∧ LG w'.heap.size w' s a n c z ∧ Below w.heap.size w w' ∧ Fresh w.heap.size a n

theorem tmod_of_neg {k : Int} (h : k < 0) : k.tmod 1000000000 = -((-k) % 1000000000) := by
  rw [show k.tmod 1000000000 = -((-k).tmod 1000000000) by rw [Int.neg_tmod]; omega, Int.tmod_eq_emod_of_nonneg (by omega)]
theorem tdiv_of_neg {k : Int} (h : k < 0) : k.tdiv 1000000000 = -((-k) / 1000000000) := by
  rw [show k.tdiv 1000000000 = -((-k).tdiv 1000000000) by rw [Int.neg_tdiv]; omega, Int.tdiv_eq_ediv_of_nonneg (by omega)]

/-- what holds ahead of each round of Of -/
def OfRel (n : Int) (w : World) (q : Value) (wr : World) : Prop :=
  ∃ (k : Int) (va : Option Addr) (vc : Nat) (zs : List Int), q = .int .i64 k ∧ -9223372036854775808 ≤ k ∧ k ≤ 9223372036854775807 ∧ digs n.natAbs = zs ++ digs k.natAbs ∧
    wr.ownsRow (w.heap.size + 2) 3 1 (.slice va zs.length vc) zs.length (zs.map (Value.int .i64)) ∧
    wr.heap[w.heap.size]? = some (.cells #[.bool false, .slice none 0 0] 110 (0, 0)) ∧
    wr.heap[w.heap.size + 1]? = some (.cells #[.bool (decide (n < 0)), .slice va zs.length vc] 110 (0, 0)) ∧ Below w.heap.size w wr ∧ w.heap.size + 2 ≤ wr.heap.size

theorem heap_two (w : World) (o p : Obj) : ((w.alloc o).alloc p).heap[w.heap.size]? = some o ∧ ((w.alloc o).alloc p).heap[w.heap.size + 1]? = some p := by
  constructor
  · rw [Below.heap_alloc _ _ _ (by simp)]; exact heap_alloc_new _ _
  · have := heap_alloc_new (w.alloc o) p
    simpa using this

theorem length_digs_int (n : Int) (h1 : -9223372036854775808 ≤ n) (h2 : n ≤ 9223372036854775807) : (digs n.natAbs).length ≤ 3 :=
  length_digs_le (by simp; omega)

set_option maxRecDepth 100000 in
set_option maxHeartbeats 800000 in
theorem of_any (n : Int) (w : World) (h1 : -9223372036854775808 ≤ n) (h2 : n ≤ 9223372036854775807) :
    Calls Tryz.prog 42 #[.int .i64 n] w (RetL1 w n) := by
  have hlen := length_digs_int n h1 h2
  have Hlen := Lib.hid hlen; clear hlen
  go_enter Tryz.func42, Tryz.ntmps42
  go_wp2_with fail
  go_loopw [0] (fun q wr => OfRel n w q wr) (fun q _ => (intOf q).natAbs)
  case atStart =>
    obtain ⟨e1, e2⟩ := heap_two w (.cells #[.bool false, .slice none 0 0] 110) (.cells #[.bool (decide (n < 0)), .slice none 0 0] 110)
    exact ⟨n, none, 0, [], rfl, h1, h2, by simp, World.ownsRow_nil _ _ _ _, e1, e2, ((Below.refl _ _).alloc (Nat.le_refl _) _).alloc (by simp) _, by simp⟩
  case round =>
    obtain ⟨k, va, vc, zs, rfl, hk1, hk2, hd, hown, hc1, hc2, hbw, hsz⟩ := hrel
    have k10 : wr.cell? ⟨w.heap.size + 1, 0, none⟩ = some (.bool (decide (n < 0))) := by simp [World.cell?, hc2]
    have k11 : wr.cell? ⟨w.heap.size + 1, 1, none⟩ = some (.slice va zs.length vc) := by simp [World.cell?, hc2]
    have k12 : ∀ i, wr.frozen? ⟨w.heap.size + 1, i, none⟩ = false := fun i => by simp [World.frozen?, hc2]
    have Hd := Lib.hid hd; have Hown := Lib.hid hown; have Hc1 := Lib.hid hc1; have Hc2 := Lib.hid hc2; clear hd hown hc1 hc2
    by_cases hk0 : k = 0
    · subst hk0
      have j10 : wr.cell? ⟨w.heap.size, 0, none⟩ = some (.bool false) := by simp [World.cell?, Hc1.out]
      have j11 : wr.cell? ⟨w.heap.size, 1, none⟩ = some (.slice none 0 0) := by simp [World.cell?, Hc1.out]
      have j20 : wr.frozen? ⟨w.heap.size, 0, none⟩ = false := by simp [World.frozen?, Hc1.out]
      have j21 : wr.frozen? ⟨w.heap.size, 1, none⟩ = false := by simp [World.frozen?, Hc1.out]
      have Hsl := Lib.hid (owns_sl Hown.out)
      have Hcs := Lib.hid (owns_cells Hown.out)
      go_wp2
      refine bodyPost_ret (v := .agg #[.bool (decide (n < 0)), .slice va zs.length vc]) ?_ rfl ?_
      · simp [results, Tryz.results42, go_sem, j10, j11]
      · have hzs : digs n.natAbs = zs := by have := Hd.out; simpa [digs_zero] using this
        refine ⟨_, va, zs.length, vc, rfl, ⟨rfl, ?_, by have := Hlen.out; rw [hzs] at this; omega⟩, (hbw.setCell (Nat.le_refl _) _).setCell (Nat.le_refl _) _, ?_⟩
        rotate_left
        · rcases Hcs.out.2 with ⟨e, h0⟩ | ⟨g, cap, e, hg, hcap, hcells⟩
          · rw [h0]; exact Fresh.zero _ _
          · injection e with e1 e2 e3
            rw [e1]; exact Fresh.mk (by omega) _
        rw [hzs]
        refine ⟨rfl, Hsl.out.cap, fun h0 => ?_⟩
        rcases Hcs.out.2 with ⟨_, e⟩ | ⟨g, cap, e, hg, hcap, hcells⟩
        · omega
        · injection e with e1 e2 e3
          subst e1 e3
          refine ⟨g, 0, rfl, by simpa using hcells.lt, fun j hj => ?_⟩
          have := (hcells.other ⟨w.heap.size, 0, none⟩ (by simp; omega) (.bool (decide (n < 0)))).other ⟨w.heap.size, 1, none⟩ (by simp; omega) (.slice (some ⟨g, 0, none⟩) zs.length vc)
          rw [Nat.zero_add, this.cell (by simp; omega)]
          simp [List.getD_eq_getElem?_getD, List.getElem?_eq_getElem hj]
    · have hb : ((k : Int) != 0) = true := by simpa using hk0
      have Hk0 := Lib.hid hk0; clear hk0
      by_cases hpos : 0 ≤ k
      · have hd3 := Hd.out
        have hkp : 0 < k.natAbs := by have := Hk0.out; omega
        have hlz : zs.length ≤ 3 := by have := Hlen.out; rw [hd3, List.length_append] at this; omega
        clear hd3
        go_wp2_with (refine wpList_append_ints rfl (.tmp 15) (.tmp 20) 108 rfl Tryz.underlying108 (w.heap.size + 2) _ _ zs rfl (Hown.out.alloc _) _ _ 1 1 [_] rfl (SL.one wr _ _) (by simp) (by omega) (by simp; omega) ?_)
        intro v' w1 hown1 hgrow
        obtain ⟨va', vc', rfl⟩ := owns_slice hown1
        have e1 := (grown_old (base := w.heap.size + 2) Hown.out hgrow (b := w.heap.size) (by omega) hsz).trans Hc1.out
        have e2 := (grown_old (base := w.heap.size + 2) Hown.out hgrow (b := w.heap.size + 1) (by omega) hsz).trans Hc2.out
        have e3 := grown_below hbw Hown.out hgrow (by omega) hsz
        have e4 := hgrow.size
        have f11 : w1.cell? ⟨w.heap.size + 1, 1, none⟩ = some (.slice va zs.length vc) := by simp [World.cell?, e2]
        have f12 : w1.frozen? ⟨w.heap.size + 1, 1, none⟩ = false := by simp [World.frozen?, e2]
        have He1 := Lib.hid e1; have He2 := Lib.hid e2; have Hown1 := Lib.hid hown1; clear e1 e2 hown1 hgrow k10 k11 k12
        go_wp2
        go_roundw
        case rel =>
          have hx : digs k.natAbs = [k % 1000000000] ++ digs (k / 1000000000).natAbs := by
            rw [digs_pos hkp, show ((k.natAbs % 1000000000 : Nat) : Int) = k % 1000000000 by omega, show k.natAbs / 1000000000 = (k / 1000000000).natAbs by omega]; rfl
          refine ⟨k / 1000000000, va', vc', zs ++ [k % 1000000000], rfl, by omega, by omega, ?_, ?_, obj_other He1.out _ (by simp) _, ?_, e3.setCell (by simp) _, ?_⟩
          · rw [Hd.out, hx, List.append_assoc]
          · have := ownsRow_setCell_below Hown1.out (a := ⟨w.heap.size + 1, 1, none⟩) (by simp) (.slice va' (zs.length + 1) vc')
            simpa using this
          · have := obj_setCell He2.out 1 (.slice va' (zs.length + 1) vc')
            simpa using this
          · simp at e4 ⊢; omega
        case measure => simp [intOf]; omega
      · have ht := tmod_of_neg (k := k) (by omega)
        have hq := tdiv_of_neg (k := k) (by omega)
        have hd3 := Hd.out
        have hkp : 0 < k.natAbs := by have := Hk0.out; omega
        have hlz : zs.length ≤ 3 := by have := Hlen.out; rw [hd3, List.length_append] at this; omega
        have hr0 : 0 ≤ (-k) % 1000000000 := by omega
        have hr1 : (-k) % 1000000000 < 1000000000 := by omega
        have hq0 : 0 ≤ (-k) / 1000000000 := by omega
        have hq1 : (-k) / 1000000000 ≤ 9223372037 := by omega
        have hx : digs k.natAbs = [(-k) % 1000000000] ++ digs (-((-k) / 1000000000)).natAbs := by
          rw [digs_pos hkp, show ((k.natAbs % 1000000000 : Nat) : Int) = (-k) % 1000000000 by omega, show k.natAbs / 1000000000 = (-((-k) / 1000000000)).natAbs by omega]; rfl
        have hmeas : ((-k) / 1000000000).natAbs < k.natAbs := by omega
        have Hx := Lib.hid hx; clear hx
        clear hd3
        by_cases hr : (-k) % 1000000000 = 0
        · rw [hr] at ht
          rw [show (-0 : Int) = 0 from rfl] at ht
          have Hr := Lib.hid hr; clear hr
          go_wp2_with (refine wpList_append_ints rfl (.tmp 15) (.tmp 20) 108 rfl Tryz.underlying108 (w.heap.size + 2) _ _ zs rfl (Hown.out.alloc _) _ _ 1 1 [_] rfl (SL.one wr _ _) (by simp) (by omega) (by simp; omega) ?_)
          intro v' w1 hown1 hgrow
          obtain ⟨va', vc', rfl⟩ := owns_slice hown1
          have e1 := (grown_old (base := w.heap.size + 2) Hown.out hgrow (b := w.heap.size) (by omega) hsz).trans Hc1.out
          have e2 := (grown_old (base := w.heap.size + 2) Hown.out hgrow (b := w.heap.size + 1) (by omega) hsz).trans Hc2.out
          have e3 := grown_below hbw Hown.out hgrow (by omega) hsz
          have e4 := hgrow.size
          have f11 : w1.cell? ⟨w.heap.size + 1, 1, none⟩ = some (.slice va zs.length vc) := by simp [World.cell?, e2]
          have f12 : w1.frozen? ⟨w.heap.size + 1, 1, none⟩ = false := by simp [World.frozen?, e2]
          have He1 := Lib.hid e1; have He2 := Lib.hid e2; have Hown1 := Lib.hid hown1; clear e1 e2 hown1 hgrow k10 k11 k12
          go_wp2
          go_roundw
          case rel =>
            refine ⟨-((-k) / 1000000000), va', vc', zs ++ [0], rfl, by omega, by omega, ?_, ?_, obj_other He1.out _ (by simp) _, ?_, e3.setCell (by simp) _, ?_⟩
            · rw [Hd.out, Hx.out, Hr.out, List.append_assoc]
            · have := ownsRow_setCell_below Hown1.out (a := ⟨w.heap.size + 1, 1, none⟩) (by simp) (.slice va' (zs.length + 1) vc')
              simpa using this
            · have := obj_setCell He2.out 1 (.slice va' (zs.length + 1) vc')
              simpa using this
            · simp at e4 ⊢; omega
          case measure => simp [intOf]; omega
        · have hr' : 0 < (-k) % 1000000000 := by omega
          clear hr
          go_wp2_with (refine wpList_append_ints rfl (.tmp 15) (.tmp 20) 108 rfl Tryz.underlying108 (w.heap.size + 2) _ _ zs rfl (Hown.out.alloc _) _ _ 1 1 [_] rfl (SL.one wr _ _) (by simp) (by omega) (by simp; omega) ?_)
          intro v' w1 hown1 hgrow
          obtain ⟨va', vc', rfl⟩ := owns_slice hown1
          have e1 := (grown_old (base := w.heap.size + 2) Hown.out hgrow (b := w.heap.size) (by omega) hsz).trans Hc1.out
          have e2 := (grown_old (base := w.heap.size + 2) Hown.out hgrow (b := w.heap.size + 1) (by omega) hsz).trans Hc2.out
          have e3 := grown_below hbw Hown.out hgrow (by omega) hsz
          have e4 := hgrow.size
          have f11 : w1.cell? ⟨w.heap.size + 1, 1, none⟩ = some (.slice va zs.length vc) := by simp [World.cell?, e2]
          have f12 : w1.frozen? ⟨w.heap.size + 1, 1, none⟩ = false := by simp [World.frozen?, e2]
          have He1 := Lib.hid e1; have He2 := Lib.hid e2; have Hown1 := Lib.hid hown1; clear e1 e2 hown1 hgrow k10 k11 k12
          go_wp2
          go_roundw
          case rel =>
            refine ⟨-((-k) / 1000000000), va', vc', zs ++ [(-k) % 1000000000], rfl, by omega, by omega, ?_, ?_, obj_other He1.out _ (by simp) _, ?_, e3.setCell (by simp) _, ?_⟩
            · rw [Hd.out, Hx.out, List.append_assoc]
            · have := ownsRow_setCell_below Hown1.out (a := ⟨w.heap.size + 1, 1, none⟩) (by simp) (.slice va' (zs.length + 1) vc')
              simpa using this
            · have := obj_setCell He2.out 1 (.slice va' (zs.length + 1) vc')
              simpa using this
            · simp at e4 ⊢; omega
          case measure => simp [intOf]; omega

end Go.Proofs.YthommhfppeonpaaGreatDoor

namespace Go.Proofs.YthommhfppeonpaaGreatDoor
open Go.RowKit

set_option maxRecDepth 100000 in
set_option maxHeartbeats 800000 in
/-- two valid long integers, as a list -/
theorem all_two (b : Nat) (s1 s2 : Bool) (z1 z2 : Int) (a1 a2 : Option Addr) (n1 n2 c1 c2 : Nat) (w : World) (h1 : LG w.heap.size w s1 a1 n1 c1 z1) (h2 : LG w.heap.size w s2 a2 n2 c2 z2)
    (hb : b < w.heap.size) (k0 : w.cell? ⟨b, 0, none⟩ = some (.bool s1)) (k1 : w.cell? ⟨b, 1, none⟩ = some (.slice a1 n1 c1)) (k2 : w.cell? ⟨b, 2, none⟩ = some (.bool s2)) (k3 : w.cell? ⟨b, 3, none⟩ = some (.slice a2 n2 c2)) :
    Calls Tryz.prog 103 #[.slice (some ⟨b, 0, none⟩) 2 2] w (RetB w (.int .i64 0)) := by
  have H1 := Lib.hid h1; have H2 := Lib.hid h2; clear h1 h2
  go_enter Tryz.func103, Tryz.ntmps103
  go_wp2_with fail
  refine wp_loop_rounds 3 ?_
  rw [rounds_succ]
  go_wp2_with fail
  refine (check_ok s1 z1 a1 n1 c1 _ (H1.out.go ((Below.refl _ _).alloc (Nat.le_refl _) _))).mono ?_
  rintro e w1 ⟨rfl, hb1⟩
  have hb1' := below_alloc hb1
  have k2' := (hb1'.cell (p := ⟨b, 2, none⟩) hb).trans k2
  have k3' := (hb1'.cell (p := ⟨b, 3, none⟩) hb).trans k3
  have hsz := hb1'.size
  clear k0 k1 k2 k3
  go_wp2_with fail
  rw [rounds_succ]
  go_wp2_with fail
  refine (check_ok s2 z2 a2 n2 c2 _ ((H2.out.go hb1').go ((Below.refl _ _).alloc (Nat.le_refl _) _))).mono ?_
  rintro e w2 ⟨rfl, hb2⟩
  have hb2' := below_alloc hb2
  go_wp2_with fail
  rw [rounds_succ]
  go_wp2_with fail
  go_ret
  exact ⟨rfl, hb1'.trans (hb2'.mono hsz)⟩
theorem below3 (w : World) (o p q : Obj) : Below w.heap.size w (((w.alloc o).alloc p).alloc q) := (((Below.refl _ _).alloc (Nat.le_refl _) _).alloc (by simp) _).alloc (by simp; omega) _
theorem below4 (w : World) (o p q r : Obj) : Below w.heap.size w ((((w.alloc o).alloc p).alloc q).alloc r) := (below3 w o p q).alloc (by simp; omega) _
theorem cells3 (w : World) (o p q : Array Value) (t u v : TypeId) :
    (∀ i, (((w.alloc (.cells o t)).alloc (.cells p u)).alloc (.cells q v)).cell? ⟨w.heap.size, i, none⟩ = o[i]?) ∧
    (∀ i, (((w.alloc (.cells o t)).alloc (.cells p u)).alloc (.cells q v)).cell? ⟨w.heap.size + 1, i, none⟩ = p[i]?) ∧
    (∀ i, (((w.alloc (.cells o t)).alloc (.cells p u)).alloc (.cells q v)).cell? ⟨w.heap.size + 1 + 1, i, none⟩ = q[i]?) := by
  refine ⟨fun i => ?_, fun i => ?_, fun i => ?_⟩
  · rw [World.cell?_alloc_past _ _ _ (by simp; omega), World.cell?_alloc_past _ _ _ (by simp), World.cell?_alloc_at _ _ _ _ rfl]
  · rw [World.cell?_alloc_past _ _ _ (by simp), World.cell?_alloc_at _ _ _ _ (by simp)]
  · rw [World.cell?_alloc_at _ _ _ _ (by simp)]

/-- a call that gives back a number of the sign of the order, and changes nothing that was there -/
def RetSign (w : World) (x y : Int) (e : Ending) (w' : World) : Prop :=
  ∃ r, e = .returned (.int .i64 r) ∧ (0 < r ↔ y < x) ∧ (r < 0 ↔ x < y) ∧ Below w.heap.size w w'

theorem below_two {w : World} (o p : Obj) : Below w.heap.size w ((w.alloc o).alloc p) := ((Below.refl _ _).alloc (Nat.le_refl _) _).alloc (by simp) _

set_option maxHeartbeats 800000 in
theorem signed_any (s1 s2 : Bool) (z1 z2 : Int) (a1 a2 : Option Addr) (n1 n2 c1 c2 : Nat) (w : World) (h1 : LG w.heap.size w s1 a1 n1 c1 z1) (h2 : LG w.heap.size w s2 a2 n2 c2 z2) :
    Calls Tryz.prog 110 #[.agg #[.bool s1, .slice a1 n1 c1], .agg #[.bool s2, .slice a2 n2 c2]] w (RetSign w z1 z2) := by
  obtain ⟨hs1, hl1, hn1⟩ := h1
  obtain ⟨hs2, hl2, hn2⟩ := h2
  have Hs1 := Lib.hid hs1; have Hs2 := Lib.hid hs2; have H1 := Lib.hid hl1; have H2 := Lib.hid hl2; clear hs1 hs2 hl1 hl2
  cases s1
  all_goals cases s2
  · go_enter Tryz.func110, Tryz.ntmps110
    go_wp2_with fail
    refine (cmp_any _ _ a1 a2 n1 n2 c1 c2 _ (H1.out.go (below_two _ _)) (H2.out.go (below_two _ _)) (by omega) (by omega) (dig_digs _) (dig_digs _)).mono ?_
    rintro e w1 ⟨rfl, k, rfl⟩
    go_wp2
    go_ret
    have e1 := Hs1.out; have e2 := Hs2.out
    simp at e1 e2
    exact ⟨_, rfl, by rw [(cmpS_sign).1]; omega, by rw [(cmpS_sign).2]; omega, below_drewN (below_two _ _) _⟩
  · go_enter Tryz.func110, Tryz.ntmps110
    go_wp2
    go_ret
    have e1 := Hs1.out; have e2 := Hs2.out
    simp at e1 e2
    exact ⟨_, rfl, by omega, by omega, (below_two _ _)⟩
  · go_enter Tryz.func110, Tryz.ntmps110
    go_wp2
    go_ret
    have e1 := Hs1.out; have e2 := Hs2.out
    simp at e1 e2
    exact ⟨_, rfl, by omega, by omega, (below_two _ _)⟩
  · go_enter Tryz.func110, Tryz.ntmps110
    go_wp2_with fail
    refine (cmp_any _ _ a2 a1 n2 n1 c2 c1 _ (H2.out.go (below_two _ _)) (H1.out.go (below_two _ _)) (by omega) (by omega) (dig_digs _) (dig_digs _)).mono ?_
    rintro e w1 ⟨rfl, k, rfl⟩
    go_wp2
    go_ret
    have e1 := Hs1.out; have e2 := Hs2.out
    simp at e1 e2
    exact ⟨_, rfl, by rw [(cmpS_sign).1]; omega, by rw [(cmpS_sign).2]; omega, below_drewN (below_two _ _) _⟩

/-- the order of two numbers as -1, 0, 1 -/
def cmpZ (x y : Int) : Int := if x < y then -1 else if y < x then 1 else 0

/-- a call that gives back the order and OK -/
def RetCmp (w : World) (x y : Int) (e : Ending) (w' : World) : Prop := e = .returned (.tuple #[.int .i64 (cmpZ x y), .int .i64 0]) ∧ Below w.heap.size w w'

set_option maxHeartbeats 800000 in
theorem lcmp_any (s1 s2 : Bool) (z1 z2 : Int) (a1 a2 : Option Addr) (n1 n2 c1 c2 : Nat) (w : World) (h1 : LG w.heap.size w s1 a1 n1 c1 z1) (h2 : LG w.heap.size w s2 a2 n2 c2 z2) :
    Calls Tryz.prog 80 #[.agg #[.bool s1, .slice a1 n1 c1], .agg #[.bool s2, .slice a2 n2 c2]] w (RetCmp w z1 z2) := by
  have H1 := Lib.hid h1; have H2 := Lib.hid h2; clear h1 h2
  go_enter Tryz.func80, Tryz.ntmps80
  go_wp2_with fail
  have hq := below3 w (.cells #[.bool s1, .slice a1 n1 c1] 110) (.cells #[.bool s2, .slice a2 n2 c2] 110) (.cells #[.bool s1, .slice a1 n1 c1, .bool s2, .slice a2 n2 c2] 110)
  have hc := cells3 w #[.bool s1, .slice a1 n1 c1] #[.bool s2, .slice a2 n2 c2] #[.bool s1, .slice a1 n1 c1, .bool s2, .slice a2 n2 c2] 110 110 110
  have Hq := Lib.hid hq; have Hc := Lib.hid hc; clear hq hc
  refine (all_two (w.heap.size + 1 + 1) s1 s2 z1 z2 a1 a2 n1 n2 c1 c2 _ (H1.out.go Hq.out) (H2.out.go Hq.out) (by simp) (Hc.out.2.2 0) (Hc.out.2.2 1) (Hc.out.2.2 2) (Hc.out.2.2 3)).mono ?_
  rintro e w1 ⟨rfl, hb1⟩
  have j0 := (hb1.cell (p := ⟨w.heap.size, 0, none⟩) (by simp; omega)).trans (Hc.out.1 0)
  have j1 := (hb1.cell (p := ⟨w.heap.size, 1, none⟩) (by simp; omega)).trans (Hc.out.1 1)
  have j2 := (hb1.cell (p := ⟨w.heap.size + 1, 0, none⟩) (by simp)).trans (Hc.out.2.1 0)
  have j3 := (hb1.cell (p := ⟨w.heap.size + 1, 1, none⟩) (by simp)).trans (Hc.out.2.1 1)
  simp at j0 j1 j2 j3
  have hb1' := Hq.out.trans (hb1.mono (by simp; omega))
  go_wp2_with fail
  refine (signed_any s1 s2 z1 z2 a1 a2 n1 n2 c1 c2 _ (H1.out.go hb1') (H2.out.go hb1')).mono ?_
  rintro e w2 ⟨r, rfl, hr1, hr2, hb2⟩
  have hbb := hb1'.trans (hb2.mono hb1'.size)
  have hz : cmpZ z1 z2 = if 0 < r then 1 else if r < 0 then -1 else 0 := by
    unfold cmpZ
    by_cases a : 0 < r
    · rw [if_pos a, if_neg (by omega), if_pos (by omega)]
    · by_cases b : r < 0
      · rw [if_neg a, if_pos b, if_pos (by omega)]
      · rw [if_neg a, if_neg b, if_neg (by omega), if_neg (by omega)]
  have Hz := Lib.hid hz; clear hz hr1 hr2
  by_cases q1 : r = 1
  · subst q1
    go_wp2
    go_ret2
    exact ⟨by rw [Hz.out]; rfl, hbb⟩
  by_cases q2 : r = 0
  · subst q2
    go_wp2
    go_ret2
    exact ⟨by rw [Hz.out]; rfl, hbb⟩
  by_cases q3 : r = -1
  · subst q3
    go_wp2
    go_ret2
    exact ⟨by rw [Hz.out]; rfl, hbb⟩
  by_cases q4 : 1 < r
  · clear q1 q2 q3
    go_wp2
    go_ret2
    exact ⟨by rw [Hz.out, if_pos (by omega)]; rfl, hbb⟩
  · have q5 : r < -1 := by omega
    clear q1 q2 q3 q4
    go_wp2
    go_ret2
    exact ⟨by rw [Hz.out, if_neg (by omega), if_pos (by omega)]; rfl, hbb⟩

end Go.Proofs.YthommhfppeonpaaGreatDoor
