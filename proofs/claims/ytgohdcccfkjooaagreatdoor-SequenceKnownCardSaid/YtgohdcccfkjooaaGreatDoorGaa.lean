/-
  DERIVED. Several texts in one: Args, DecA, DecB, DecC, DecD, DecE, DecF, DecG, OpdA, OpdB, Hnd, Num, DlA, Region, Base, LgK, KRefA, KRefB, KRefC, KRefD, KRefE, KRefF, KRefG, KDivNum, Float, Floats.
-/
import Derived.Test.YtgohdcccfkjooaaGreatDoorRows
import Derived.WalkKit
import Derived.ProofKit
import Derived.OpenShut
import Derived.Lib.ItoaNum
import Derived.Lib.AtoiAll
import Derived.Stop.LaidErr
import Derived.Lay
import Derived.Handed
import Derived.MakeChecks
import Derived.Shelf.Vars
import Derived.OrdersHeld
import Derived.StillTail
import Derived.WalkSpells
import Derived.WalkLawsBesides
import Derived.BigQuiet
import Derived.Lib.Hide
import Derived.OwnWalk
import Derived.OneCell
import Derived.Laws.CopyOwn
import Derived.Laws.AppendOwnNone
import Derived.Deep.QuietTactic
import Derived.Deep.RegionWith
import Derived.Deep.DeepFit
import Derived.Deep.DeepMust
import Derived.Deep.RegionHeld3
import Derived.Deep.AppendLies
namespace Go.Proofs.YtgohdcccfkjooaaGreatDoor
open Go.ChangeShapes Go.WideShapes Go.ChangeAt Go.RowKit
variable {P : Program}

theorem laidOut_all : laidOutB Tryz.prog = true := by kernel_rfl

/-- all arguments read behind the call as they did -/
theorem trodAll_below {H : Type} {enc : TypeId × Value → H} {W W' : World} (hb : Below W.heap.size W W') :
    ∀ (ts : List TypeId) (vs : List Value) (ds : List (DataW H)) (ps : List MemPlace), (∀ t ∈ ts, Tryz.prog.readableRec t = true ∧ t < Tryz.prog.types.size) → DataW.TrodAll enc Tryz.prog W 0 (fun _ => true) true ts vs ds ps →
      DataW.TrodAll enc Tryz.prog W' 0 (fun b => decide (b < W.heap.size)) true ts vs ds ps
  | [], vs, ds, ps, _, h => by
    obtain ⟨rfl, rfl, rfl⟩ := trodAll_nil h
    exact trodAll_mk0
  | t :: ts, vs, ds, ps, hr, h => by
    obtain ⟨v, vs', d, ds', p, q, rfl, rfl, rfl, h0, h1⟩ := trodAll_cons h
    refine trodAll_cons_mk (Below.trod laidOut_all (hr t (by simp)).1 (hr t (by simp)).2 h0 hb ?_) (trodAll_below hb ts vs' ds' q (fun u hu => hr u (by simp [hu])) h1)
    obtain ⟨m, hm⟩ := h0
    exact DataW.trod_lt m _ _ _ hm

theorem all_of {ts : List TypeId} (h : ts.all (fun t => P.readableRec t && decide (t < P.types.size)) = true) : ∀ t ∈ ts, P.readableRec t = true ∧ t < P.types.size := by
  intro t ht
  have := List.all_eq_true.1 h t ht
  simpa using this

end Go.Proofs.YtgohdcccfkjooaaGreatDoor

namespace Go.Proofs.YtgohdcccfkjooaaGreatDoor
open Go.Lib

/-- the places behind the point: as many as are needed -/
def placesT : Nat → Nat → List UInt8
  | 0, _ => []
  | d + 1, r => if r = 0 then [] else UInt8.ofNat (48 + r / 10 ^ d) :: placesT d (r % 10 ^ d)

/-- the text of u / 10^d -/
def wholeT (u d : Nat) : List UInt8 := decDigits (u / 10 ^ d) ++ (if u % 10 ^ d = 0 then [] else 46 :: placesT d (u % 10 ^ d))
def numT (n : Int) (d : Nat) : List UInt8 := (if n < 0 then [45] else []) ++ wholeT n.natAbs d

/-- all places, zeros too -/
def allT : Nat → Nat → List UInt8
  | 0, _ => []
  | d + 1, r => UInt8.ofNat (48 + r / 10 ^ d % 10) :: allT d (r % 10 ^ d)

def isZero (b : UInt8) : Bool := b == 48
/-- strings.TrimRight(s, "0") -/
def trimR (l : List UInt8) : List UInt8 := (l.reverse.dropWhile isZero).reverse

theorem trimR_zeros (k : Nat) : trimR (List.replicate k 48) = [] := by
  unfold trimR
  rw [List.reverse_replicate]
  have : (List.replicate k (48 : UInt8)).dropWhile isZero = [] := by
    induction k with
    | zero => rfl
    | succ k ih => rw [List.replicate_succ]; exact ih
  rw [this]; rfl
theorem trimR_cons {b : UInt8} {l : List UInt8} (h : b ≠ 48) : trimR (b :: l) = b :: trimR l := by
  have hb : isZero b = false := by unfold isZero; simpa using h
  unfold trimR
  rw [List.reverse_cons, List.dropWhile_append]
  cases hd : (l.reverse.dropWhile isZero) with
  | nil => simp [List.dropWhile, hb]
  | cons x xs => simp
theorem trimR_cons_ne {b : UInt8} {l : List UInt8} (h : trimR l ≠ []) : trimR (b :: l) = b :: trimR l := by
  unfold trimR at h ⊢
  rw [List.reverse_cons, List.dropWhile_append]
  cases hd : (l.reverse.dropWhile isZero) with
  | nil => rw [hd] at h; exact absurd rfl h
  | cons x xs => simp

theorem allT_length : ∀ d r, (allT d r).length = d
  | 0, _ => rfl
  | d + 1, r => by rw [allT, List.length_cons, allT_length d]
theorem allT_zero : ∀ d, allT d 0 = List.replicate d 48
  | 0 => rfl
  | d + 1 => by rw [allT, Nat.zero_div, Nat.zero_mod, Nat.zero_mod, allT_zero d]; rfl

theorem ofNat_ne48 {k : Nat} (h1 : 0 < k) (h2 : k < 10) : UInt8.ofNat (48 + k) ≠ 48 := by
  intro h
  have := congrArg UInt8.toNat h
  rw [UInt8.toNat_ofNat'] at this
  have e : (48 : UInt8).toNat = 48 := rfl
  rw [e] at this
  omega

theorem trim_allT : ∀ (d r : Nat), r < 10 ^ d → trimR (allT d r) = placesT d r
  | 0, _, _ => rfl
  | d + 1, r, h => by
    have hp : 0 < 10 ^ d := Nat.pow_pos (by omega)
    have hq : r / 10 ^ d < 10 := by
      rw [Nat.div_lt_iff_lt_mul hp]; rw [Nat.pow_succ] at h; omega
    rw [allT, placesT, Nat.mod_eq_of_lt hq]
    by_cases hr : r = 0
    · rw [if_pos hr, hr, Nat.zero_div, Nat.zero_mod, allT_zero]
      exact trimR_zeros (d + 1)
    · rw [if_neg hr]
      have ih := trim_allT d (r % 10 ^ d) (Nat.mod_lt _ hp)
      by_cases hz : r / 10 ^ d = 0
      · have hm : r % 10 ^ d = r := Nat.mod_eq_of_lt (by
          rcases Nat.lt_or_ge r (10 ^ d) with h' | h'
          · exact h'
          · have := Nat.div_pos h' hp; omega)
        have hne : trimR (allT d (r % 10 ^ d)) ≠ [] := by
          rw [ih, hm]
          cases d with
          | zero =>
            have hh := Nat.mod_lt r hp
            rw [hm, Nat.pow_zero] at hh
            omega
          | succ d => rw [placesT, if_neg hr]; exact List.cons_ne_nil _ _
        rw [trimR_cons_ne hne, ih]
      · rw [trimR_cons (ofNat_ne48 (Nat.pos_of_ne_zero hz) hq), ih]

/-- the digits of u, the last d of them apart -/
theorem decDigits_split : ∀ (d u : Nat), 10 ^ d ≤ u → decDigits u = decDigits (u / 10 ^ d) ++ allT d (u % 10 ^ d)
  | 0, u, _ => by simp [allT]
  | d + 1, u, h => by
    have hp : 0 < 10 ^ d := Nat.pow_pos (by omega)
    have h1 : 10 ^ d ≤ u := Nat.le_trans (Nat.pow_le_pow_right (by omega) (by omega)) h
    have hbig : ¬ u / 10 ^ d < 10 := by
      intro hlt
      rw [Nat.div_lt_iff_lt_mul hp] at hlt
      rw [Nat.pow_succ] at h; omega
    rw [decDigits_split d u h1, decDigits, dif_neg hbig, allT, Nat.pow_succ, Nat.div_div_eq_div_mul, List.append_assoc]
    congr 1
    have e1 : u % (10 ^ d * 10) / 10 ^ d % 10 = u / 10 ^ d % 10 := by
      rw [Nat.mod_mul_right_div_self, Nat.mod_mod]
    have e2 : u % (10 ^ d * 10) % 10 ^ d = u % 10 ^ d := Nat.mod_mod_of_dvd _ (Nat.dvd_mul_right _ _)
    rw [e1, e2]; rfl

theorem nDigits_ge : ∀ {d u : Nat}, 10 ^ d ≤ u → d + 1 ≤ nDigits u
  | 0, u, _ => nDigits_pos u
  | d + 1, u, h => by
    have hb : ¬ u < 10 := by
      have hp : 0 < 10 ^ d := Nat.pow_pos (by omega)
      rw [Nat.pow_succ] at h; omega
    rw [nDigits_big hb]
    have := nDigits_ge (d := d) (u := u / 10) (by rw [Nat.pow_succ] at h; omega)
    omega
theorem nDigits_le_of_lt : ∀ {d u : Nat}, u < 10 ^ d → 1 ≤ d → nDigits u ≤ d
  | 0, _, _, h => absurd h (by omega)
  | d + 1, u, h, _ => by
    by_cases hb : u < 10
    · rw [nDigits_small hb]; omega
    · rw [nDigits_big hb]
      have h2 : u / 10 < 10 ^ d := by rw [Nat.pow_succ] at h; omega
      have hd : 1 ≤ d := by
        cases d with
        | zero => rw [Nat.pow_zero] at h2; omega
        | succ d => omega
      have := nDigits_le_of_lt h2 hd
      omega
theorem allT_pad : ∀ (d u : Nat), u < 10 ^ d → 1 ≤ d → allT d u = List.replicate (d - nDigits u) 48 ++ decDigits u
  | 0, _, _, h => absurd h (by omega)
  | d + 1, u, h, _ => by
    have hp : 0 < 10 ^ d := Nat.pow_pos (by omega)
    have hq : u / 10 ^ d < 10 := by
      rw [Nat.div_lt_iff_lt_mul hp]; rw [Nat.pow_succ] at h; omega
    by_cases hu : 10 ^ d ≤ u
    · have hn : nDigits u = d + 1 := nDigits_unique d u hu h
      rw [hn, Nat.sub_self, List.replicate_zero, List.nil_append, decDigits_split d u hu, allT, Nat.mod_eq_of_lt hq]
      rw [decDigits, dif_pos hq]; rfl
    · have hu' : u < 10 ^ d := by omega
      rw [allT, Nat.div_eq_of_lt hu', Nat.mod_eq_of_lt hu']
      cases d with
      | zero =>
        have : u = 0 := by rw [Nat.pow_zero] at hu'; omega
        subst this
        rw [nDigits_small (by omega), decDigits, dif_pos (by omega)]; rfl
      | succ d =>
        rw [allT_pad (d + 1) u hu' (by omega)]
        have hle : nDigits u ≤ d + 1 := by
          rcases Nat.lt_or_ge (d + 1) (nDigits u) with hlt | hge
          · have h1 := nDigits_le_of_lt hu' (by omega); omega
          · exact hge
        rw [show d + 1 + 1 - nDigits u = (d + 1 - nDigits u) + 1 by omega, List.replicate_succ]; rfl

/-- the digits with zeros ahead, so that there are more than d -/
theorem padded (d u : Nat) : List.replicate (d + 1 - (decDigits u).length) 48 ++ decDigits u = decDigits (u / 10 ^ d) ++ allT d (u % 10 ^ d) := by
  rw [decDigits_length]
  have hp : 0 < 10 ^ d := Nat.pow_pos (by omega)
  by_cases hu : 10 ^ d ≤ u
  · have hn : d + 1 ≤ nDigits u := nDigits_ge hu
    rw [show d + 1 - nDigits u = 0 by omega, List.replicate_zero, List.nil_append, decDigits_split d u hu]
  · have hu' : u < 10 ^ d := by omega
    have h2 : u < 10 ^ (d + 1) := Nat.lt_of_lt_of_le hu' (Nat.pow_le_pow_right (by omega) (by omega))
    rw [← allT_pad (d + 1) u h2 (by omega), Nat.div_eq_of_lt hu', Nat.mod_eq_of_lt hu', allT, Nat.div_eq_of_lt hu', Nat.mod_eq_of_lt hu', decDigits, dif_pos (by omega)]; rfl

/-! ### dec.written -/
/-- what dec.written lays behind the sign: s the digits -/
def writtenU (s : List UInt8) (d : Nat) : List UInt8 :=
  let z := List.replicate (d + 1 - s.length) 48 ++ s
  let p := trimR (z.drop (z.length - d))
  z.take (z.length - d) ++ (if p = [] then [] else 46 :: p)
theorem placesT_nil : ∀ {d r : Nat}, r < 10 ^ d → (placesT d r = [] ↔ r = 0)
  | 0, r, h => by rw [Nat.pow_zero] at h; exact ⟨fun _ => by omega, fun _ => rfl⟩
  | d + 1, r, _ => by
    rw [placesT]
    by_cases h : r = 0
    · rw [if_pos h]; exact ⟨fun _ => h, fun _ => rfl⟩
    · rw [if_neg h]; exact ⟨fun e => (List.cons_ne_nil _ _ e).elim, fun e => (h e).elim⟩
theorem writtenU_eq (d u : Nat) : writtenU (decDigits u) d = wholeT u d := by
  have hp : 0 < 10 ^ d := Nat.pow_pos (by omega)
  have hm := Nat.mod_lt u hp
  unfold writtenU wholeT
  simp only []
  rw [padded, List.length_append, allT_length, Nat.add_sub_cancel]
  rw [List.drop_left' rfl, List.take_left' rfl, trim_allT d _ hm]
  congr 1
  by_cases h : u % 10 ^ d = 0
  · rw [if_pos h, if_pos ((placesT_nil hm).2 h)]
  · rw [if_neg h, if_neg (fun e => h ((placesT_nil hm).1 e))]

/-! ### the reference's places: a digit at a time, the power falling -/
theorem decDigits_digit {k : Nat} (h : k < 10) : decDigits k = [UInt8.ofNat (48 + k)] := by rw [decDigits, dif_pos h]
end Go.Proofs.YtgohdcccfkjooaaGreatDoor

namespace Go.Proofs.YtgohdcccfkjooaaGreatDoor
open Go.Lib

def isD (b : UInt8) : Bool := decide (48 ≤ b.toNat ∧ b.toNat ≤ 57)
/-- the number of a row of digits -/
def valD (a : Nat) (l : List UInt8) : Nat := l.foldl (fun a b => 10 * a + (b.toNat - 48)) a
theorem valD_nil (a : Nat) : valD a [] = a := rfl
theorem valD_cons (a : Nat) (b : UInt8) (l : List UInt8) : valD a (b :: l) = valD (10 * a + (b.toNat - 48)) l := by
  unfold valD; rw [List.foldl_cons]
attribute [irreducible] valD
theorem valD_append : ∀ (l m : List UInt8) (a : Nat), valD a (l ++ m) = valD (valD a l) m
  | [], m, a => by rw [valD_nil, List.nil_append]
  | b :: l, m, a => by rw [List.cons_append, valD_cons, valD_append l m, valD_cons]
theorem toNat_digit {k : Nat} (h : k < 10) : (UInt8.ofNat (48 + k)).toNat = 48 + k := by
  rw [UInt8.toNat_ofNat']; omega
theorem isD_digit {k : Nat} (h : k < 10) : isD (UInt8.ofNat (48 + k)) = true := by
  unfold isD; rw [toNat_digit h]; simp; omega
theorem digit_of {b : UInt8} (h : isD b = true) : ∃ k, k < 10 ∧ b = UInt8.ofNat (48 + k) := by
  unfold isD at h
  have h := of_decide_eq_true h
  refine ⟨b.toNat - 48, by omega, ?_⟩
  rw [show 48 + (b.toNat - 48) = b.toNat by omega]
  exact (UInt8.ofNat_toNat).symm
theorem valD_decDigits (u : Nat) : valD 0 (decDigits u) = u := by
  induction u using Nat.strongRecOn with
  | _ u ih =>
    by_cases h : u < 10
    · rw [decDigits_digit h, valD_cons, valD_nil, toNat_digit h]; omega
    · rw [decDigits, dif_neg h, valD_append, ih (u / 10) (by omega), valD_cons, valD_nil, toNat_digit (by omega)]; omega
theorem all_decDigits (u : Nat) : ∀ b ∈ decDigits u, isD b = true := by
  induction u using Nat.strongRecOn with
  | _ u ih =>
    by_cases h : u < 10
    · rw [decDigits_digit h]; intro b hb; rw [List.mem_singleton.1 hb]; exact isD_digit h
    · rw [decDigits, dif_neg h]
      intro b hb
      rcases List.mem_append.1 hb with hb | hb
      · exact ih (u / 10) (by omega) b hb
      · rw [List.mem_singleton.1 hb]; exact isD_digit (by omega)
end Go.Proofs.YtgohdcccfkjooaaGreatDoor

namespace Go.Proofs.YtgohdcccfkjooaaGreatDoor
open Go.Lib

end Go.Proofs.YtgohdcccfkjooaaGreatDoor

namespace Go.Proofs.YtgohdcccfkjooaaGreatDoor
open Go.Lib

/-- the places of a text without its sign -/
def formT (t : List UInt8) : Option Nat :=
  let w := t.takeWhile isD
  if w = [] ∨ (1 < w.length ∧ w.head? = some 48) then none
  else match t.dropWhile isD with
    | [] => some 0
    | b :: f => if b = 46 ∧ f ≠ [] ∧ f.all isD = true ∧ f.getLast? ≠ some 48 then some f.length else none
/-- a text without its sign, and whether it had one -/
def unsign (s : List UInt8) : Bool × List UInt8 := match s with
  | 45 :: t => (true, t)
  | s => (false, s)
def decForm (s : List UInt8) : Option Nat := if s = [45, 48] then none else formT (unsign s).2
/-- the number of all digits -/
def numV (s : List UInt8) : Int := if (unsign s).1 then -((valD 0 (s.filter isD) : Nat) : Int) else ((valD 0 (s.filter isD) : Nat) : Int)
theorem not46 {b : UInt8} (h : isD b = true) : (b == 46) = false := by
  obtain ⟨k, hk, rfl⟩ := digit_of h
  rw [beq_eq_false_iff_ne]
  intro e
  have := congrArg UInt8.toNat e
  rw [toNat_digit hk] at this
  have e' : (46 : UInt8).toNat = 46 := rfl
  rw [e'] at this; omega
theorem not45 {b : UInt8} (h : isD b = true) : b ≠ 45 := by
  obtain ⟨k, hk, rfl⟩ := digit_of h
  intro e
  have := congrArg UInt8.toNat e
  rw [toNat_digit hk] at this
  have e' : (45 : UInt8).toNat = 45 := rfl
  rw [e'] at this; omega
theorem filter_all {l : List UInt8} (h : l.all isD = true) : l.filter isD = l := List.filter_eq_self.2 (List.all_eq_true.1 h)

/-- what a text without sign is that has a form -/
theorem formT_some {t : List UInt8} {p : Nat} (h : formT t = some p) : ∃ w f, w.all isD = true ∧ w ≠ [] ∧ (w.length = 1 ∨ w.head? ≠ some 48) ∧ f.all isD = true ∧ f.getLast? ≠ some 48 ∧ f.length = p ∧ t = w ++ (if f = [] then [] else 46 :: f) := by
  unfold formT at h
  simp only [] at h
  split at h
  · cases h
  · rename_i hw
    have hw1 : t.takeWhile isD ≠ [] := fun e => hw (.inl e)
    have hw2 : (t.takeWhile isD).length = 1 ∨ (t.takeWhile isD).head? ≠ some 48 := by
      by_cases h1 : 1 < (t.takeWhile isD).length
      · exact .inr fun e => hw (.inr ⟨h1, e⟩)
      · have : 0 < (t.takeWhile isD).length := List.length_pos_iff.2 hw1
        exact .inl (by omega)
    have hall : (t.takeWhile isD).all isD = true := List.all_takeWhile
    have ht : t.takeWhile isD ++ t.dropWhile isD = t := List.takeWhile_append_dropWhile
    split at h
    · rename_i e
      cases h
      refine ⟨t.takeWhile isD, [], hall, hw1, hw2, rfl, by simp, rfl, ?_⟩
      rw [e] at ht
      rw [if_pos rfl]; exact ht.symm
    · rename_i b f e
      split at h
      · rename_i hf
        cases h
        refine ⟨t.takeWhile isD, f, hall, hw1, hw2, hf.2.2.1, hf.2.2.2, rfl, ?_⟩
        rw [if_neg hf.2.1, ← hf.1, ← e]; exact ht.symm
      · cases h
end Go.Proofs.YtgohdcccfkjooaaGreatDoor

namespace Go.Proofs.YtgohdcccfkjooaaGreatDoor
open Go.Lib

end Go.Proofs.YtgohdcccfkjooaaGreatDoor

namespace Go.Proofs.YtgohdcccfkjooaaGreatDoor
open Go.Lib

/-- the parts of a text that has a form -/
structure Parts (s : List UInt8) (p : Nat) where
  neg : Bool
  w : List UInt8
  f : List UInt8
  hw : w.all isD = true
  wne : w ≠ []
  w0 : w.length = 1 ∨ w.head? ≠ some 48
  hf : f.all isD = true
  fl : f.getLast? ≠ some 48
  fp : f.length = p
  eq : s = (if neg then [45] else []) ++ (w ++ (if f = [] then [] else 46 :: f))
  un : (unsign s).1 = neg
theorem form_parts {s : List UInt8} {p : Nat} (h : decForm s = some p) : Nonempty (Parts s p) := by
  unfold decForm at h
  split at h
  · cases h
  · obtain ⟨w, f, h1, h2, h3, h4, h5, h6, h7⟩ := formT_some h
    refine ⟨⟨(unsign s).1, w, f, h1, h2, h3, h4, h5, h6, ?_, rfl⟩⟩
    rw [← h7]
    unfold unsign
    split <;> rfl
theorem filter_parts {s : List UInt8} {p : Nat} (q : Parts s p) : s.filter isD = q.w ++ q.f := by
  have e46 : isD 46 = false := rfl
  have e45 : isD 45 = false := rfl
  refine (congrArg (List.filter isD) q.eq).trans ?_
  rw [List.filter_append, List.filter_append, filter_all q.hw]
  have h1 : (if q.neg = true then [45] else ([] : List UInt8)).filter isD = [] := by
    split
    · rw [List.filter_cons, e45]; rfl
    · rfl
  have h2 : (if q.f = [] then ([] : List UInt8) else 46 :: q.f).filter isD = q.f := by
    split
    · rename_i e; rw [e]; rfl
    · rw [List.filter_cons, e46, filter_all q.hf]; rfl
  rw [h1, h2, List.nil_append]
end Go.Proofs.YtgohdcccfkjooaaGreatDoor

namespace Go.Proofs.YtgohdcccfkjooaaGreatDoor
open Go.Lib

theorem valD_mono : ∀ (l : List UInt8) (a : Nat), a ≤ valD a l
  | [], a => by rw [valD_nil]; exact Nat.le_refl _
  | b :: l, a => by rw [valD_cons]; exact Nat.le_trans (by omega) (valD_mono l _)
theorem parseUint10_digits : ∀ (l : List UInt8) (a : Nat), a < 18446744073709551616 → (∀ b ∈ l, isD b = true) → parseUint10 a l = if valD a l < 18446744073709551616 then .ok (valD a l) else .range
  | [], a, h, _ => by rw [valD_nil, if_pos h, parseUint10]
  | b :: l, a, h, hd => by
    obtain ⟨k, hk, rfl⟩ := digit_of (hd b (List.mem_cons_self))
    have hv := valD_mono l (10 * a + (48 + k - 48))
    rw [parseUint10, toNat_digit hk, if_pos (by omega), valD_cons, toNat_digit hk]
    by_cases h1 : 1844674407370955162 ≤ a
    · rw [if_pos h1, if_neg (by omega)]
    · rw [if_neg h1]
      by_cases h2 : 18446744073709551616 ≤ a * 10 + (48 + k - 48)
      · rw [if_pos h2, if_neg (by omega)]
      · rw [if_neg h2, show a * 10 + (48 + k - 48) = 10 * a + (48 + k - 48) by omega]
        exact parseUint10_digits l _ (by omega) (fun c hc => hd c (List.mem_cons_of_mem _ hc))
theorem atoiAll_digits {l : List UInt8} (hne : l ≠ []) (hd : ∀ b ∈ l, isD b = true) (neg : Bool) : atoiAll ((if neg then [45] else []) ++ l) = if (if neg then -((valD 0 l : Nat) : Int) else ((valD 0 l : Nat) : Int)) < -9223372036854775808 ∨ 9223372036854775807 < (if neg then -((valD 0 l : Nat) : Int) else ((valD 0 l : Nat) : Int)) then .range else .ok (if neg then -((valD 0 l : Nat) : Int) else ((valD 0 l : Nat) : Int)) := by
  have hp : parseMag l = if valD 0 l < 18446744073709551616 then .ok (valD 0 l) else .range := by
    unfold parseMag
    rw [if_neg hne]; exact parseUint10_digits l 0 (by omega) hd
  cases neg with
  | true =>
    have e : ((if true = true then [45] else []) ++ l : List UInt8) = 45 :: l := rfl
    rw [e]
    unfold atoiAll
    have h45 : (45 : UInt8).toNat = 45 := rfl
    simp only [h45, or_true, if_true]
    rw [hp]
    by_cases hv : valD 0 l < 18446744073709551616
    · rw [if_pos hv]
      simp only []
      by_cases h2 : 9223372036854775808 < valD 0 l
      · rw [if_neg (by simp), if_pos ⟨trivial, h2⟩, if_pos (by omega)]
      · rw [if_neg (by simp), if_neg (fun h => h2 h.2), if_neg (by omega)]
    · rw [if_neg hv]
      simp only []
      rw [if_pos (by omega)]
  | false =>
    have e : ((if false = true then [45] else []) ++ l : List UInt8) = l := rfl
    rw [e]
    cases l with
    | nil => exact absurd rfl hne
    | cons c r =>
      obtain ⟨k, hk, rfl⟩ := digit_of (hd c (List.mem_cons_self))
      unfold atoiAll
      simp only [toNat_digit hk]
      rw [if_neg (by omega), hp]
      generalize valD 0 (UInt8.ofNat (48 + k) :: r) = v
      by_cases hv : v < 18446744073709551616
      · rw [if_pos hv]
        have hc : ¬ (48 + k = 45) := by omega
        simp only [hc, Bool.false_eq_true, if_false, not_false_eq_true, true_and, false_and]
        by_cases h2 : 9223372036854775808 ≤ v
        · rw [if_pos h2, if_pos (by omega)]
        · rw [if_neg h2, if_neg (by omega)]
      · rw [if_neg hv]
        simp only [Bool.false_eq_true, if_false]
        rw [if_pos (by omega)]
theorem valD_zeros : ∀ (k a : Nat), valD a (List.replicate k 48) = a * 10 ^ k
  | 0, a => by rw [List.replicate_zero, valD_nil]; omega
  | k + 1, a => by
    have h48 : (48 : UInt8).toNat = 48 := rfl
    rw [List.replicate_succ, valD_cons, valD_zeros k, h48, Nat.pow_succ]
    rw [Nat.sub_self, Nat.add_zero, Nat.mul_comm 10 a, Nat.mul_assoc, Nat.mul_comm 10]
/-- what dec.Parse hands to Atoi, and what comes of it -/
theorem atoi_parts {s : List UInt8} {p : Nat} (q : Parts s p) (k : Nat) : atoiAll ((if q.neg then [45] else []) ++ (q.w ++ q.f ++ List.replicate k 48)) = if numV s * 10 ^ k < -9223372036854775808 ∨ 9223372036854775807 < numV s * 10 ^ k then .range else .ok (numV s * 10 ^ k) := by
  have hd : ∀ b ∈ q.w ++ q.f ++ List.replicate k 48, isD b = true := by
    intro b hb
    rcases List.mem_append.1 hb with hb | hb
    · rcases List.mem_append.1 hb with hb | hb
      · exact List.all_eq_true.1 q.hw b hb
      · exact List.all_eq_true.1 q.hf b hb
    · rw [List.eq_of_mem_replicate hb]; rfl
  have hne : q.w ++ q.f ++ List.replicate k 48 ≠ [] := by
    intro e
    exact q.wne (List.append_eq_nil_iff.1 (List.append_eq_nil_iff.1 e).1).1
  have hv : (if q.neg then -((valD 0 (q.w ++ q.f ++ List.replicate k 48) : Nat) : Int) else ((valD 0 (q.w ++ q.f ++ List.replicate k 48) : Nat) : Int)) = numV s * 10 ^ k := by
    unfold numV
    rw [q.un, valD_append, valD_zeros, filter_parts q]
    cases q.neg with
    | true =>
      simp only [if_true]
      rw [Int.natCast_mul, Int.natCast_pow, Int.neg_mul]; rfl
    | false =>
      simp only [Bool.false_eq_true, if_false]
      rw [Int.natCast_mul, Int.natCast_pow]; rfl
  rw [atoiAll_digits hne hd, hv]
end Go.Proofs.YtgohdcccfkjooaaGreatDoor

namespace Go.Proofs.YtgohdcccfkjooaaGreatDoor
open Go.Lib

end Go.Proofs.YtgohdcccfkjooaaGreatDoor

namespace Go.Proofs.YtgohdcccfkjooaaGreatDoor
open Go.Lib

def isSp (b : UInt8) : Bool := b == 32 || b == 9
/-- the words of a line; w the word that is begun -/
def wordsOf : List UInt8 → List UInt8 → List (List UInt8)
  | w, [] => if w = [] then [] else [w]
  | w, b :: l => if isSp b then (if w = [] then wordsOf [] l else w :: wordsOf [] l) else wordsOf (w ++ [b]) l
/-- the lines of a text; w the line that is begun -/
def linesOf : List UInt8 → List UInt8 → List (List UInt8)
  | w, [] => [w]
  | w, b :: l => if b == 10 then w :: linesOf [] l else linesOf (w ++ [b]) l
end Go.Proofs.YtgohdcccfkjooaaGreatDoor

namespace Go.Proofs.YtgohdcccfkjooaaGreatDoor
open Go.ChangeShapes Go.WideShapes Go.RowKit

theorem handed_shaped {H : Type} {enc : TypeId × Value → H} {a : Assume} {C : Checked} {os : Os} {f : FuncId} {fn : Func} {s : ChangeSpec} {conds : List PathCond} {apart fresh handsOn again : Bool} {X : World → Array Value → Prop}
    (hX : ∀ (w w' : World) (args : Array Value), w.heap = w'.heap → X w args → X w' args)
    (own : ownKnob C.prog.godebug = none) (started : os.Started) (noInit : C.prog.inits.idxOf? f = none) (hfn : C.prog.funcs[f]? = some fn)
    (witness : ∃ (w : World) (tape : Tape) (i : Input), w.os = os ∧ (w.forCall tape i).Shaped C.prog ∧ i.vars = [] ∧ Input.okWide C.prog (w.forCall tape i) .any w.heap.size f i ∧
      ((s.pre enc C.prog fn conds apart (w.forCall tape i).memory i.args ∧ X (w.forCall tape i).memory i.args) ∧ sizedMet enc C.prog fn (OpenSpec.ofChange s) apart (w.forCall tape i).memory i.args) ∧ a.holds C.prog (lone (Frame.enter C.prog f i.args .normal) [] (w.forCall tape i)))
    (contract : ∀ (W : World) (base : Nat) (args : Array Value) (ds gs : List (DataW H)) (before : List MemPlace),
      (∀ (j : Nat) t v, fn.params[j]? = some t → args[j]? = some v → Value.okWide C.prog W .any base t v) →
      DataW.Whole enc C.prog fn.params.toList s.vars apart W args.toList ds gs before → X W args → W.ShapedOpen C.prog →
      Calls C.prog f args W fun e W' => ∃ v, e = .returned v ∧ s.post enc C.prog fn apart fresh handsOn again W args v W') :
    ReturnsInHanded a C os f .any (fun w args => (s.pre enc C.prog fn conds apart w args ∧ X w args) ∧ sizedMet enc C.prog fn (OpenSpec.ofChange s) apart w args) (s.post enc C.prog fn apart fresh handsOn again) := by
  refine returnsInHanded_of_calls own started noInit witness ?_
  intro w tape i _ hsh _ hok hpre _
  obtain ⟨_, _, _, fn', hfn', _, _, _, _, hval⟩ := hok
  have e : fn' = fn := Option.some.inj (hfn'.symm.trans hfn)
  subst e
  obtain ⟨⟨⟨ds, gs, before, hw, _⟩, hx⟩, _⟩ := hpre
  have hw' := DataW.Whole.of_heap (w' := w.forCall tape i) (by rfl) hw
  refine (contract (w.forCall tape i) w.heap.size i.args ds gs before hval hw' (hX _ _ _ (by rfl) hx) hsh).mono fun e W' ⟨v, he, hp⟩ => ?_
  subst he
  exact ChangeSpec.post_blind hp

end Go.Proofs.YtgohdcccfkjooaaGreatDoor

namespace Go.Proofs.YtgohdcccfkjooaaGreatDoor

/-- the value of a list of digits -/
def val : List Int → Int
  | [] => 0
  | d :: l => d + 1000000000 * val l

/-- each one is a digit -/
def Dig (l : List Int) : Prop := ∀ j, j < l.length → 0 ≤ l.getD j 0 ∧ l.getD j 0 < 1000000000

theorem Dig.nil : Dig [] := fun j h => by simp at h
theorem Dig.head {d : Int} {l : List Int} (h : Dig (d :: l)) : 0 ≤ d ∧ d < 1000000000 := by simpa using h 0 (by simp)
theorem Dig.tail {d : Int} {l : List Int} (h : Dig (d :: l)) : Dig l := fun j hj => by simpa using h (j + 1) (by simpa using hj)
theorem Dig.cons {d : Int} {l : List Int} (hd : 0 ≤ d ∧ d < 1000000000) (h : Dig l) : Dig (d :: l) := fun j hj => by
  cases j with
  | zero => simpa using hd
  | succ j => simpa using h j (by simpa using hj)
theorem Dig.all {l : List Int} (h : Dig l) (j : Nat) : 0 ≤ l.getD j 0 ∧ l.getD j 0 < 1000000000 := by
  by_cases hj : j < l.length
  · exact h j hj
  · rw [List.getD_eq_getElem?_getD, List.getElem?_eq_none (by omega)]; simp
theorem Dig.append {l m : List Int} (hl : Dig l) (hm : Dig m) : Dig (l ++ m) := fun j _ => by
  by_cases hj : j < l.length
  · rw [List.getD_eq_getElem?_getD, List.getElem?_append_left hj, ← List.getD_eq_getElem?_getD]; exact hl j hj
  · rw [List.getD_eq_getElem?_getD, List.getElem?_append_right (by omega), ← List.getD_eq_getElem?_getD]; exact hm.all _
theorem Dig.take {l : List Int} (h : Dig l) (k : Nat) : Dig (l.take k) := fun j hj => by
  have hj2 : j < k := by have := List.length_take_le k l; omega
  have e : (l.take k).getD j 0 = l.getD j 0 := by simp [List.getD_eq_getElem?_getD, hj2]
  rw [e]; exact h.all j
theorem Dig.drop {l : List Int} (h : Dig l) (k : Nat) : Dig (l.drop k) := fun j _ => by
  have e : (l.drop k).getD j 0 = l.getD (k + j) 0 := by simp [List.getD_eq_getElem?_getD, List.getElem?_drop]
  rw [e]; exact h.all _

theorem val_nonneg {l : List Int} (h : Dig l) : 0 ≤ val l := by
  induction l with
  | nil => simp [val]
  | cons d l ih => have := h.head; have := ih h.tail; simp only [val]; omega

theorem val_append (l m : List Int) : val (l ++ m) = val l + 1000000000 ^ l.length * val m := by
  induction l with
  | nil => simp [val]
  | cons d l ih => simp only [List.cons_append, val, ih, List.length_cons, Int.pow_succ, Int.mul_add]; rw [Int.mul_comm (1000000000 ^ l.length) 1000000000, Int.mul_assoc]; omega

theorem val_lt {l : List Int} (h : Dig l) : val l < 1000000000 ^ l.length := by
  induction l with
  | nil => simp [val]
  | cons d l ih => have := h.head; have := ih h.tail; simp only [val, List.length_cons, Int.pow_succ]; omega

theorem val_take_succ {l : List Int} {k : Nat} (h : k < l.length) : val (l.take (k + 1)) = val (l.take k) + l.getD k 0 * 1000000000 ^ k := by
  have e : l.take (k + 1) = l.take k ++ [l.getD k 0] := by
    rw [List.take_add_one, List.getElem?_eq_getElem h]; simp [List.getD_eq_getElem?_getD, List.getElem?_eq_getElem h]
  rw [e, val_append, List.length_take, Nat.min_eq_left (by omega)]
  simp only [val, Int.mul_zero, Int.add_zero]; rw [Int.mul_comm]

/-- the digits of a number -/
def digs (n : Nat) : List Int := if n = 0 then [] else ((n % 1000000000 : Nat) : Int) :: digs (n / 1000000000)
termination_by n
decreasing_by omega

theorem digs_zero : digs 0 = [] := by rw [digs]; simp
theorem digs_pos {n : Nat} (h : 0 < n) : digs n = ((n % 1000000000 : Nat) : Int) :: digs (n / 1000000000) := by rw [digs, if_neg (by omega)]

theorem dig_digs (n : Nat) : Dig (digs n) := by
  induction n using Nat.strongRecOn with
  | _ n ih =>
    by_cases h : n = 0
    · subst h; rw [digs_zero]; exact Dig.nil
    · rw [digs_pos (by omega)]; exact Dig.cons (by omega) (ih _ (by omega))

theorem val_digs (n : Nat) : val (digs n) = n := by
  induction n using Nat.strongRecOn with
  | _ n ih =>
    by_cases h : n = 0
    · subst h; rw [digs_zero]; rfl
    · rw [digs_pos (by omega)]; simp only [val, ih _ (show n / 1000000000 < n by omega)]; omega

/-- no highest zero -/
def Top (l : List Int) : Prop := 0 < l.length → l.getD (l.length - 1) 0 ≠ 0

theorem Top.tail {d : Int} {l : List Int} (h : Top (d :: l)) : Top l := by
  intro hl
  have := h (by simp)
  cases l with
  | nil => simp at hl
  | cons e l => simpa using this

theorem getD_take {l : List Int} {k j : Nat} (h : j < k) : (l.take k).getD j 0 = l.getD j 0 := by
  simp [List.getD_eq_getElem?_getD, h]

theorem length_digs_le {n k : Nat} (h : n < 1000000000 ^ k) : (digs n).length ≤ k := by
  induction k generalizing n with
  | zero => have : n = 0 := by simpa using h
            subst this; rw [digs_zero]; simp
  | succ k ih =>
    by_cases h0 : n = 0
    · subst h0; rw [digs_zero]; simp
    · rw [digs_pos (by omega), List.length_cons]
      have : n / 1000000000 < 1000000000 ^ k := by rw [Nat.pow_succ] at h; exact Nat.div_lt_of_lt_mul (by rw [Nat.mul_comm]; exact h)
      have := ih this
      omega

theorem digs_lt (n : Nat) : n < 1000000000 ^ (digs n).length := by
  have h := val_lt (dig_digs n)
  rw [val_digs] at h
  have e : ((1000000000 ^ (digs n).length : Nat) : Int) = (1000000000 : Int) ^ (digs n).length := by rw [Int.natCast_pow]; rfl
  rw [← e] at h
  exact Int.ofNat_lt.1 h

theorem digs_len_zero {n : Nat} : (digs n).length = 0 ↔ n = 0 := by
  constructor
  · intro h; have := digs_lt n; rw [h] at this; omega
  · rintro rfl; rw [digs_zero]; rfl

end Go.Proofs.YtgohdcccfkjooaaGreatDoor

namespace Go.Proofs.YtgohdcccfkjooaaGreatDoor
open Go.Lib

theorem pow9 (i : Nat) : (1000000000 : Nat) ^ i = 10 ^ (9 * i) := by
  rw [Nat.pow_mul]
theorem nDigits_digs (u : Nat) : nDigits u ≤ 9 * (digs u).length ∨ u = 0 := by
  rcases Nat.eq_zero_or_pos u with h | h
  · exact Or.inr h
  · left
    have := digs_lt u
    rw [pow9] at this
    exact nDigits_le_of_lt this (by
      rcases Nat.eq_zero_or_pos (digs u).length with e | e
      · have := digs_len_zero.1 e; omega
      · omega)
/-- the decimal text of an integer -/
def intT (z : Int) : List UInt8 := (if z < 0 then [45] else []) ++ decDigits z.natAbs
end Go.Proofs.YtgohdcccfkjooaaGreatDoor

namespace Go.Proofs.YtgohdcccfkjooaaGreatDoor
open Go.RowKit

section
variable {P : Program} {ops : Array Oper} {Q : Exit → Act → World → Prop} {md : Region.Mode}

/-- Whatever order is picked from here on; behind each operation before number n what was there is as it was. -/
def wpR (P : Program) (md : Region.Mode) (ops : Array Oper) (Q : Exit → Act → World → Prop) (n : Nat) : Nat → Array Bool → Act → World → Prop
  | 0, listed, a, w => Region.ready md ops listed = [] ∧ Q .normal a w
  | fuel + 1, listed, a, w =>
    (Region.ready md ops listed = [] → Q .normal a w) ∧
    ∀ i ∈ Region.ready md ops listed, wpOp P ops Q i (fun a' w' => (i < n → Below w.heap.size w w') ∧ wpR P md ops Q n fuel (listed.setIfInBounds i true) a' w') a w

theorem wpAny_of_R {n : Nat} : ∀ (fuel : Nat) (listed : Array Bool) (a : Act) (w : World), wpR P md ops Q n fuel listed a w → wpAny P md ops Q fuel listed a w
  | 0, _, _, _, h => h
  | fuel + 1, _, _, _, h => ⟨h.1, fun i hi => wpOp_mono (fun a' w' h' => wpAny_of_R fuel _ a' w' h'.2) (h.2 i hi)⟩

theorem YieldsIf.stay {o : Oper} {v : Value} {a : Act} {w w' : World} (h : YieldsIf P ops (fun x => Below w.heap.size w x) o v a) (hb : Below w.heap.size w w') :
    YieldsIf P ops (fun x => Below w'.heap.size w' x) o v a :=
  h.imp (fun ⟨h1, h2⟩ => ⟨h1, fun x hx => h2 x (hb.trans (hx.mono hb.size))⟩) id

theorem wpR_first {n i : Nat} {oi : Oper} {v : Value} (hi : ops[i]? = some oi) (hsel : ∀ (j : Nat) (o : Oper) cs b, ops[j]? = some o → o.op ≠ .select cs b)
    (hs : Region.sinkB md ops n = true) (hc : Region.chainB md ops n = true) (hn : n < ops.size) (hin : i < n)
    (hQ : ∀ c a w, Q (.panic c) (a.put oi.dst v) w → Q (.panic c) a w) :
    ∀ (fuel : Nat) (listed : Array Bool) (a : Act) (w : World), HeadInv md ops n listed →
      (∀ j oj, ops[j]? = some oj → j ≠ i → listed.getD j true = false → (∀ e ∈ oj.after, Region.binds md e = true → e.on ≠ i) → oi.apart ops oj = true) →
      i ∈ Region.ready md ops listed → YieldsIf P ops (fun x => Below w.heap.size w x) oi v a →
      wpR P md ops Q n fuel (listed.setIfInBounds i true) (a.put oi.dst v) w → wpR P md ops Q n (fuel + 1) listed a w := by
  intro fuel
  induction fuel with
  | zero =>
    intro listed a w _ _ hr hy H
    refine ⟨fun h => (by rw [h] at hr; cases hr), fun j hj => ?_⟩
    by_cases hji : j = i
    · subst hji; exact hy.wpOp hi (Below.refl _ _) ⟨fun _ => Below.refl _ _, H⟩
    · have := ready_mono hj hji
      rw [H.1] at this
      cases this
  | succ fuel ih =>
    intro listed a w inv hfree hr hy H
    have hun := (mem_ready.1 hr).1
    refine ⟨fun h => (by rw [h] at hr; cases hr), fun j hj => ?_⟩
    have hjn : j < n := by
      rcases Nat.lt_or_ge j n with h | h
      · exact h
      · exact absurd hj (tail_waits hs hc hn inv _ i rfl hin hun j h)
    by_cases hji : j = i
    · subst hji; exact hy.wpOp hi (Below.refl _ _) ⟨fun _ => Below.refl _ _, H⟩
    · have h1 := H.2 j (ready_mono hj hji)
      obtain ⟨hjun, oj, hoj, hall⟩ := mem_ready.1 hj
      have hnot : ∀ e ∈ oj.after, Region.binds md e = true → e.on ≠ i := fun e he hb heq => by
        have h1 := hall e he hb
        rw [heq, getD_both hun] at h1
        cases h1
      have h2 := wpOp_putIf hoj (hfree j oj hoj hji hjun hnot) (fun cs b => hsel i oi cs b hi) (fun cs b => hsel j oj cs b hoj) hQ hy h1
      have hfree' : ∀ k ok, ops[k]? = some ok → k ≠ i → (listed.setIfInBounds j true).getD k true = false →
          (∀ e ∈ ok.after, Region.binds md e = true → e.on ≠ i) → oi.apart ops ok = true := fun k ok hk hki hun hno => by
        refine hfree k ok hk hki ?_ hno
        by_cases hjk : j = k
        · subst hjk; exact hjun
        · rw [getD_set_ne true hjk] at hun; exact hun
      refine wpOp_mono (fun a' w' h3 => ⟨h3.2.1, ih (listed.setIfInBounds j true) a' w' (inv.set hj hjn) hfree' (ready_mono hr (Ne.symm hji)) (YieldsIf.stay h3.1 (h3.2.1 hjn)) ?_⟩) h2
      rw [Array.setIfInBounds_comm _ _ hji]
      exact h3.2.2

/-- the chosen order: of each of the first ones, whether it is taken (it merely yields) or comes up alone -/
def ordB (md : Region.Mode) (ops : Array Oper) (n : Nat) : List (Nat × Bool) → Array Bool → Bool
  | [], listed => Region.seqB md ops (ops.size - n) n listed
  | (i, t) :: rest, listed => (if t then (Region.ready md ops listed).contains i && Region.free md ops listed i else decide (Region.ready md ops listed = [i])) && decide (i < n) && ordB md ops n rest (listed.setIfInBounds i true)

/-- the walk in the chosen order -/
def wpOrd (P : Program) (ops : Array Oper) (Q : Exit → Act → World → Prop) (n : Nat) : List (Nat × Bool) → Act → World → Prop
  | [], a, w => wpList P ops Q (ops.toList.drop n) a w
  | (i, true) :: rest, a, w => ∃ o v, ops[i]? = some o ∧ YieldsIf P ops (fun x => Below w.heap.size w x) o v a ∧ (∀ c a w, Q (.panic c) (a.put o.dst v) w → Q (.panic c) a w) ∧ wpOrd P ops Q n rest (a.put o.dst v) w
  | (i, false) :: rest, a, w => wpOp P ops Q i (fun a' w' => Below w.heap.size w w' ∧ wpOrd P ops Q n rest a' w') a w

theorem wpR_of_seq {n : Nat} {Q' : Exit → Act → World → Prop} : ∀ (l : List Oper) (k : Nat) (listed : Array Bool) (a : Act) (w : World), n ≤ k → (∀ j, l[j]? = ops[k + j]?) →
    Region.seqB md ops l.length k listed = true → wpList P ops Q' l a w → wpR P md ops Q' n l.length listed a w
  | [], _, _, _, _, _, _, hB, h => ⟨by simpa [Region.seqB] using hB, h⟩
  | o :: l, k, listed, a, w, hk, hl, hB, h => by
    have h0 : ops[k]? = some o := by simpa using (hl 0).symm
    simp only [List.length_cons, Region.seqB, Bool.and_eq_true, decide_eq_true_eq] at hB
    refine ⟨fun h1 => (by rw [hB.1] at h1; cases h1), fun i hi => ?_⟩
    rw [hB.1] at hi
    have hik : i = k := by simpa using hi
    subst hik
    have hw : wpOp P ops Q' i (wpList P ops Q' l) a w := by unfold wpOp; simp only [h0]; exact h
    exact wpOp_mono (fun a' w' h' => ⟨fun hlt => absurd hlt (by omega), wpR_of_seq l (i + 1) _ a' w' (by omega) (fun j => by have := hl (j + 1); simpa [Nat.add_assoc, Nat.add_comm 1 j] using this) hB.2 h'⟩) hw

theorem wpR_of_ord {n : Nat} (hsel : Region.noSelect ops = true) (hs : Region.sinkB md ops n = true) (hc : Region.chainB md ops n = true) (hn : n < ops.size) :
    ∀ (ord : List (Nat × Bool)) (listed : Array Bool) (a : Act) (w : World), HeadInv md ops n listed → ordB md ops n ord listed = true → wpOrd P ops Q n ord a w →
      wpR P md ops Q n (ord.length + (ops.size - n)) listed a w
  | [], listed, a, w, _, hB, h => by
    have := wpR_of_seq (md := md) (n := n) (Q' := Q) (ops.toList.drop n) n listed a w (Nat.le_refl _) (fun j => by simp [List.getElem?_drop]) (by simpa [ordB] using hB) h
    simpa using this
  | (i, true) :: rest, listed, a, w, inv, hB, h => by
    obtain ⟨o, v, ho, hy, hQ, h⟩ := h
    simp only [ordB, if_true, Bool.and_eq_true, decide_eq_true_eq] at hB
    obtain ⟨⟨⟨h1, h2⟩, h3⟩, h4⟩ := hB
    have hr : i ∈ Region.ready md ops listed := by simpa using h1
    have := wpR_first ho (Region.noSelect_spec hsel) hs hc hn h3 hQ _ listed a w inv (Region.free_spec ho h2) hr hy (wpR_of_ord hsel hs hc hn rest _ _ w (inv.set hr h3) h4 h)
    rw [List.length_cons, show rest.length + 1 + (ops.size - n) = rest.length + (ops.size - n) + 1 by omega]
    exact this
  | (i, false) :: rest, listed, a, w, inv, hB, h => by
    simp only [ordB, Bool.false_eq_true, if_false, Bool.and_eq_true, decide_eq_true_eq] at hB
    obtain ⟨⟨h1, h3⟩, h4⟩ := hB
    have hr : i ∈ Region.ready md ops listed := by rw [h1]; simp
    rw [List.length_cons, show rest.length + 1 + (ops.size - n) = rest.length + (ops.size - n) + 1 by omega]
    refine ⟨fun h0 => (by rw [h0] at h1; cases h1), fun j hj => ?_⟩
    rw [h1] at hj
    obtain rfl : j = i := by simpa using hj
    exact wpOp_mono (fun a' w' h' => ⟨fun _ => h'.1, wpR_of_ord hsel hs hc hn rest _ a' w' (inv.set hr h3) h4 h'.2⟩) h

/-- the order serves: a closed fact -/
def eagerB (md : Region.Mode) (ops : Array Oper) (n : Nat) (ord : List (Nat × Bool)) : Bool :=
  Region.noSelect ops && decide (n < ops.size) && decide (ord.length = n) && Region.sinkB md ops n && Region.chainB md ops n && ordB md ops n ord (Array.replicate ops.size false)

/-- THE BEGINNING -/
theorem wp_region_eager {id : Nat} {a : Act} {w : World} (n : Nat) (ord : List (Nat × Bool)) (hm : P.follows .mixedOrders = true) (hB : eagerB .any ops n ord = true)
    (h : wpOrd P ops Q n ord a w.drew) : (Code.region id ops true).wp P Q a w := by
  simp only [eagerB, Bool.and_eq_true, decide_eq_true_eq] at hB
  obtain ⟨⟨⟨⟨⟨hsel, hn⟩, hl⟩, hs⟩, hc⟩, ho⟩ := hB
  have inv0 : HeadInv .any ops n (Array.replicate ops.size false) :=
    ⟨by simp, fun j oj _ hl => (by rw [getD_replicate_false] at hl; cases hl), fun t _ ht => getD_in (by simpa using ht) (getD_replicate_false _ _)⟩
  have := wpR_of_ord (P := P) (Q := Q) hsel hs hc hn ord _ a w.drew inv0 ho h
  rw [hl, show n + (ops.size - n) = ops.size by omega] at this
  exact wp_region_any hm (wpAny_of_R _ _ _ _ this)

/-- an operation that merely yields -/
theorem wpOrd_yield {n i : Nat} {rest : List (Nat × Bool)} {o : Oper} {v : Value} {a : Act} {w : World} (hi : ops.toList[i]? = some o) (hQ : ∀ c a w, Q (.panic c) (a.put o.dst v) w → Q (.panic c) a w)
    (hw : Region.wanted o (yielded ops a.tmps) = true) (hy : ∀ x, Below w.heap.size w x → (execOp a.eval o).run P x = .ok (.value v) x)
    (h : wpOrd P ops Q n rest (a.put o.dst v) w) : wpOrd P ops Q n ((i, true) :: rest) a w :=
  ⟨o, v, by rw [← Array.getElem?_toList]; exact hi, Or.inl ⟨hw, hy⟩, hQ, h⟩

/-- an operation whose guard is false -/
theorem wpOrd_skip {n i : Nat} {rest : List (Nat × Bool)} {o : Oper} {a : Act} {w : World} (hi : ops.toList[i]? = some o) (hQ : ∀ c a w, Q (.panic c) (a.put o.dst undef) w → Q (.panic c) a w)
    (hw : Region.wanted o (yielded ops a.tmps) = false)
    (h : wpOrd P ops Q n rest (a.put o.dst undef) w) : wpOrd P ops Q n ((i, true) :: rest) a w :=
  ⟨o, undef, by rw [← Array.getElem?_toList]; exact hi, Or.inr ⟨hw, rfl⟩, hQ, h⟩

/-- an operation that comes up alone: a call, a new variable -/
theorem wpOrd_step {n i : Nat} {rest : List (Nat × Bool)} {o : Oper} {a : Act} {w : World} (hi : ops.toList[i]? = some o) (hg : o.guard = none)
    (h : ∀ K : Act → World → Prop, (∀ a' w', Below w.heap.size w w' → wpOrd P ops Q n rest a' w' → K a' w') → o.wp P a w K Q) : wpOrd P ops Q n ((i, false) :: rest) a w := by
  have hw : Region.wanted o (yielded ops a.tmps) = true := by simp [Region.wanted, hg]
  rw [Array.getElem?_toList] at hi
  show wpOp P ops Q i _ a w
  unfold wpOp
  simp only [hi, hw, if_true]
  exact .inl (h _ fun a' w' h1 h2 => ⟨h1, h2⟩)

theorem wpOrd_nil {n : Nat} {a : Act} {w : World} {l : List Oper} (hl : ops.toList.drop n = l) (h : wpList P ops Q l a w) : wpOrd P ops Q n [] a w := by
  subst hl; exact h

end
end Go.Proofs.YtgohdcccfkjooaaGreatDoor

namespace Go.Proofs.YtgohdcccfkjooaaGreatDoor
open Go.RowKit

/-- the slot (a, n, c) reads as the ints zs; its block is below N -/
def SL (N : Nat) (w : World) (a : Option Addr) (n c : Nat) (zs : List Int) : Prop :=
  n = zs.length ∧ n ≤ c ∧ (0 < n → ∃ b off, a = some ⟨b, off, none⟩ ∧ b < N ∧ ∀ j, j < n → w.cell? ⟨b, off + j, none⟩ = some (.int .i64 (zs.getD j 0)))

theorem SL.len {N w a n c zs} (h : SL N w a n c zs) : n = zs.length := h.1
theorem SL.at {N w a n c zs} (h : SL N w a n c zs) (hn : 0 < n) : ∃ b off, a = some ⟨b, off, none⟩ ∧ b < N ∧ ∀ j, j < n → w.cell? ⟨b, off + j, none⟩ = some (.int .i64 (zs.getD j 0)) := h.2.2 hn
theorem SL.below {N M w w' a n c zs} (h : SL N w a n c zs) (hb : Below M w w') (hN : N ≤ M) : SL N w' a n c zs :=
  ⟨h.1, h.2.1, fun hn => let ⟨b, off, e, hlt, hc⟩ := h.2.2 hn; ⟨b, off, e, hlt, fun j hj => (hb.cell (p := ⟨b, off + j, none⟩) (Nat.lt_of_lt_of_le hlt hN)).trans (hc j hj)⟩⟩
theorem SL.mono {N M w a n c zs} (h : SL N w a n c zs) (hN : N ≤ M) : SL M w a n c zs :=
  ⟨h.1, h.2.1, fun hn => let ⟨b, off, e, hlt, hc⟩ := h.2.2 hn; ⟨b, off, e, Nat.lt_of_lt_of_le hlt hN, hc⟩⟩
/-- carried to the world behind a call -/
theorem SL.on {N w w' a n c zs} (h : SL N w a n c zs) (hb : Below N w w') : SL w'.heap.size w' a n c zs ∨ N > w'.heap.size := by
  by_cases hN : N ≤ w'.heap.size
  · exact Or.inl ((h.below hb (Nat.le_refl _)).mono hN)
  · exact Or.inr (by omega)
theorem SL.go {w w' a n c zs} (h : SL w.heap.size w a n c zs) (hb : Below w.heap.size w w') : SL w'.heap.size w' a n c zs :=
  (h.below hb (Nat.le_refl _)).mono hb.size
theorem SL.nil (N : Nat) (w : World) (a : Option Addr) (c : Nat) : SL N w a 0 c [] := ⟨rfl, Nat.zero_le _, fun h => absurd h (by omega)⟩
theorem SL.pre {N w a n c zs} (h : SL N w a n c zs) {k : Nat} (hk : k ≤ n) : SL N w a k c (zs.take k) :=
  ⟨by rw [List.length_take, ← h.1, Nat.min_eq_left hk], Nat.le_trans hk h.2.1, fun hn => let ⟨b, off, e, hlt, hc⟩ := h.2.2 (by omega); ⟨b, off, e, hlt, fun j hj => by rw [getD_take hj]; exact hc j (by omega)⟩⟩

/-- a block whose first cells are these values, free to be written -/
def Cells (w : World) (g : Nat) (cs : List Value) (t : TypeId) : Prop := ∃ rest : List Value, w.heap[g]? = some (.cells (cs ++ rest).toArray t (0, 0))

theorem Cells.lt {w g cs t} (h : Cells w g cs t) : g < w.heap.size := let ⟨_, h⟩ := h; lt_of_block h
theorem Cells.cell {w g cs t} (h : Cells w g cs t) {j : Nat} (hj : j < cs.length) : w.cell? ⟨g, j, none⟩ = some cs[j] := by
  obtain ⟨r, h⟩ := h; simp [World.cell?, h, List.getElem?_append_left hj, List.getElem?_eq_getElem hj]
theorem Cells.free {w g cs t} (h : Cells w g cs t) (j : Nat) : w.frozen? ⟨g, j, none⟩ = false := by
  obtain ⟨r, h⟩ := h; simp [World.frozen?, h]
theorem Cells.below {w w' g cs t B} (h : Cells w g cs t) (hb : Below B w w') (hg : g < B) : Cells w' g cs t := let ⟨r, h⟩ := h; ⟨r, (hb.block g hg).trans h⟩
theorem Cells.set {w g cs t} (h : Cells w g cs t) (j : Nat) (hj : j < cs.length) (v : Value) : Cells (w.setCell ⟨g, j, none⟩ v) g (cs.set j v) t := by
  have hlt := h.lt
  obtain ⟨r, h⟩ := h
  have h' : w.heap[g] = .cells (cs ++ r).toArray t (0, 0) := by simpa [Array.getElem?_eq_getElem hlt] using h
  refine ⟨r, ?_⟩
  show (w.heap.modify g _)[g]? = _
  rw [Array.getElem?_eq_getElem (by simpa using hlt), Array.getElem_modify_self, h']
  simp [hj]
theorem Cells.other {w g cs t} (h : Cells w g cs t) (p : Addr) (hp : p.block ≠ g) (v : Value) : Cells (w.setCell p v) g cs t :=
  let ⟨r, h⟩ := h; ⟨r, by rw [Below.heap_setCell _ _ _ _ (fun e => hp e.symm)]; exact h⟩
theorem Cells.drew {w g cs t} (h : Cells w g cs t) (k : Nat) : Cells (w.drewN k) g cs t := h
theorem Cells.pre {w g cs t} {ds : List Value} (h : Cells w g (cs ++ ds) t) : Cells w g cs t := let ⟨r, h⟩ := h; ⟨ds ++ r, by rw [← List.append_assoc]; exact h⟩

/-- a block whose first cells are these ints, free to be written -/
def Blk (w : World) (g : Nat) (zs : List Int) : Prop := Cells w g (zs.map (Value.int .i64)) 3

theorem Blk.lt {w g zs} (h : Blk w g zs) : g < w.heap.size := Cells.lt h
theorem Blk.cell {w g zs} (h : Blk w g zs) {j : Nat} (hj : j < zs.length) : w.cell? ⟨g, j, none⟩ = some (.int .i64 (zs.getD j 0)) := by
  have := Cells.cell h (j := j) (by simpa using hj)
  simpa [List.getD_eq_getElem?_getD, List.getElem?_eq_getElem hj] using this
theorem Blk.free {w g zs} (h : Blk w g zs) (j : Nat) : w.frozen? ⟨g, j, none⟩ = false := Cells.free h j
theorem Blk.below {w w' g zs B} (h : Blk w g zs) (hb : Below B w w') (hg : g < B) : Blk w' g zs := Cells.below h hb hg
theorem Blk.set {w g zs} (h : Blk w g zs) (j : Nat) (hj : j < zs.length) (v : Int) : Blk (w.setCell ⟨g, j, none⟩ (.int .i64 v)) g (zs.set j v) := by
  have := Cells.set h j (by simpa using hj) (.int .i64 v)
  unfold Blk; rw [List.map_set]; exact this
theorem Blk.sl {w g zs} (h : Blk w g zs) {c : Nat} (hc : zs.length ≤ c) : SL w.heap.size w (some ⟨g, 0, none⟩) zs.length c zs :=
  ⟨rfl, hc, fun _ => ⟨g, 0, rfl, h.lt, fun j hj => by rw [Nat.zero_add]; exact h.cell hj⟩⟩
theorem Blk.drew {w g zs} (h : Blk w g zs) (k : Nat) : Blk (w.drewN k) g zs := h

theorem below_drewN {B : Nat} {a w : World} (h : Below B a w) (n : Nat) : Below B a (w.drewN n) := h.trans ⟨rfl, rfl, rfl, Nat.le_refl _, fun _ _ => rfl⟩

theorem below_undrew {B : Nat} {w w' : World} {k : Nat} (h : Below B (w.drewN k) w') : Below B w w' := ⟨h.os, h.tape, h.output, h.size, h.block⟩

/-- behind a call: all old cells read as before -/
theorem bcells {w w' : World} (hb : Below w.heap.size w w') : (∀ b o, b < w.heap.size → w'.cell? ⟨b, o, none⟩ = w.cell? ⟨b, o, none⟩) ∧ (∀ b o, b < w.heap.size → w'.frozen? ⟨b, o, none⟩ = w.frozen? ⟨b, o, none⟩) :=
  ⟨fun b o h => hb.cell (p := ⟨b, o, none⟩) h, fun b o h => hb.frozen (p := ⟨b, o, none⟩) h⟩

/-- the slot lies in no block below B -/
def Fresh (B : Nat) (a : Option Addr) (n : Nat) : Prop := ∀ b off, a = some ⟨b, off, none⟩ → 0 < n → B ≤ b

theorem Fresh.zero (B : Nat) (a : Option Addr) : Fresh B a 0 := fun b off _ h => absurd h (by omega)
theorem Fresh.mk {B g off : Nat} (h : B ≤ g) (n : Nat) : Fresh B (some ⟨g, off, none⟩) n := fun b o e _ => by cases e; exact h
theorem Fresh.mono {B B' : Nat} {a : Option Addr} {n : Nat} (h : Fresh B a n) (hB : B' ≤ B) : Fresh B' a n := fun b off e h0 => Nat.le_trans hB (h b off e h0)

/-- a slice that lies elsewhere stays as it is where a cell is written -/
theorem SL.setCell {N : Nat} {w : World} {a : Option Addr} {n c : Nat} {zs : List Int} (h : SL N w a n c zs) (p : Addr) (u : Value) (hne : ∀ b off, a = some ⟨b, off, Option.none⟩ → 0 < n → b ≠ p.block) : SL N (w.setCell p u) a n c zs := by
  refine ⟨h.1, h.2.1, fun h0 => ?_⟩
  obtain ⟨b, off, e, hlt, hc⟩ := h.2.2 h0
  have hb := hne b off e h0
  exact ⟨b, off, e, hlt, fun j hj => by rw [World.cell?_setCell_other _ _ _ _ (fun e => hb (congrArg Addr.block e).symm)]; exact hc j hj⟩

/-- a call that gives back v, and changes nothing that was there -/
def RetB (w : World) (v : Value) (e : Ending) (w' : World) : Prop := e = .returned v ∧ Below w.heap.size w w'

theorem Tryz.infoInt : (Tryz.prog.info? 3).map (fun i => (i.zero, i.size, i.bytes)) = some (some (.int .i64 0), 1, 8) := by kernel_rfl

theorem info_of {t : TypeId} {z : Value} {s b : Nat} (h : (Tryz.prog.info? t).map (fun i => (i.zero, i.size, i.bytes)) = some (some z, s, b)) :
    ∃ i, Tryz.prog.info? t = some i ∧ i.zero = some z ∧ i.size = s ∧ i.bytes = b := by
  cases hi : Tryz.prog.info? t with
  | none => rw [hi] at h; cases h
  | some i => rw [hi] at h; simp at h; exact ⟨i, rfl, h.1, h.2.1, h.2.2⟩

/-- the first ones of a list, put over those of another -/
def over (cs zs : List Int) : List Int := cs ++ zs.drop cs.length

/-- what the call owns as a row, read as a block -/
theorem owns_cells {w : World} {base : Nat} {t : TypeId} {size : Nat} {v : Value} {n : Nat} {xs : List Value} (h : w.ownsRow base t size v n xs) :
    xs.length = n * size ∧ ((v = .slice none 0 0 ∧ n = 0) ∨ ∃ g cap, v = .slice (some ⟨g, 0, none⟩) n cap ∧ base ≤ g ∧ n ≤ cap ∧ Cells w g xs t) := by
  refine ⟨h.1, h.2.imp id ?_⟩
  rintro ⟨g, cap, cur, rfl, hb, hh, hc, _, _, ht⟩
  refine ⟨g, cap, rfl, hb, hc, cur.toList.drop (n * size), ?_⟩
  rw [hh, ← ht, List.take_append_drop]

/-- append, the first one the call's own (or nil), the second one any slice that reads as these cells -/
theorem wpList_append_cells {w : World} {ops : Array Oper} {rest : List Oper} {o : Oper} {a : Act} {Q : Exit → Act → World → Prop} (hgd : o.guard = none) (s x : Operand) (t : TypeId)
    (ho : o.op = .call { callee := .builtin .append, args := #[s, x], argTypes := #[t, t] })
    (base : Nat) (e : TypeId) (z : Value) (size bytes : Nat) (ht : Tryz.prog.underlying t = some (.slice e)) (hi : (Tryz.prog.info? e).map (fun i => (i.zero, i.size, i.bytes)) = some (some z, size, bytes))
    (hzs : z.cells.size = size) (hsz : 0 < size)
    (v : Value) (n : Nat) (xs : List Value) (hs : a.eval s = v) (hown : w.ownsRow base e size v n xs)
    (sp : Option Addr) (m c : Nat) (news : List Value) (hx : a.eval x = .slice sp m c) (hl : news.length = m * size)
    (hnews : 0 < m → ∃ b off, sp = some ⟨b, off, none⟩ ∧ ∀ j u, news[j]? = some u → w.cell? ⟨b, off + j, none⟩ = some u) (h1 : ∀ u ∈ news, u.oneCell' = true)
    (hmn : sp = none → m = 0 ∧ c = 0) (hb : (n + m) * bytes ≤ 140737488355328) (hb2 : n + m ≤ 140737488355328) (hbase : base ≤ w.heap.size)
    (h : ∀ v' w', w'.ownsRow base e size v' (n + m) (xs ++ news) → w.grownBy w' v.ownBlock → wpList Tryz.prog ops Q rest (a.put o.dst v') w') :
    wpList Tryz.prog ops Q (o :: rest) a w := by
  obtain ⟨i, hi1, hi2, hi3, hi4⟩ := info_of hi
  cases sp with
  | none =>
    obtain ⟨rfl, rfl⟩ := hmn rfl
    obtain rfl : news = [] := List.eq_nil_of_length_eq_zero (by simpa using hl)
    refine wpList_append_own_none hgd s x t ho base e i size ht hi1 v n xs hs hown hx ?_
    exact h v w (by simpa using hown) ⟨rfl, rfl, rfl, Nat.le_refl _, fun _ _ _ => rfl⟩
  | some ad =>
    refine wpList_append_own w hgd s x t ho base e i z size bytes ht hi1 hi2 hi3 hi4 hzs hsz v n xs hs hown ad m c news hx hl ?_ h1 (by unfold maxLen; omega) hb hbase (fun v' w' h2 h3 _ => h v' w' h2 h3)
    intro j u hj
    by_cases hm : 0 < m
    · obtain ⟨b, off, he, hc⟩ := hnews hm
      obtain rfl := Option.some.inj he
      have := hc j u hj
      unfold Addr.add
      by_cases h0 : j = 0
      · subst h0; simpa using this
      · simpa [h0] using this
    · have : news.length = 0 := by rw [hl, show m = 0 by omega]; simp
      rw [List.eq_nil_of_length_eq_zero this] at hj; simp at hj

/-- append of ints -/
theorem wpList_append_ints {w : World} {ops : Array Oper} {rest : List Oper} {o : Oper} {a : Act} {Q : Exit → Act → World → Prop} (hgd : o.guard = none) (s x : Operand) (t : TypeId)
    (ho : o.op = .call { callee := .builtin .append, args := #[s, x], argTypes := #[t, t] }) (ht : Tryz.prog.underlying t = some (.slice 3))
    (base : Nat) (v : Value) (n : Nat) (zs : List Int) (hs : a.eval s = v) (hown : w.ownsRow base 3 1 v n (zs.map (Value.int .i64)))
    (N : Nat) (sp : Option Addr) (m c : Nat) (xs : List Int) (hx : a.eval x = .slice sp m c) (hsl : SL N w sp m c xs) (hmn : sp = none → c = 0)
    (hb : n + m ≤ 10000000000000) (hbase : base ≤ w.heap.size)
    (h : ∀ v' w', w'.ownsRow base 3 1 v' (n + m) ((zs ++ xs).map (Value.int .i64)) → w.grownBy w' v.ownBlock → wpList Tryz.prog ops Q rest (a.put o.dst v') w') :
    wpList Tryz.prog ops Q (o :: rest) a w := by
  refine wpList_append_cells hgd s x t ho base 3 (.int .i64 0) 1 8 ht Tryz.infoInt (by simp [Value.cells]) (by omega) v n _ hs hown sp m c (xs.map (Value.int .i64)) hx (by simp [hsl.len]) ?_ (by simp [Value.oneCell']) ?_ (by omega) (by omega) hbase ?_
  · intro hm
    obtain ⟨b, off, e, _, hc⟩ := hsl.2.2 hm
    refine ⟨b, off, e, fun j u hj => ?_⟩
    have hjl : j < xs.length := by
      apply Decidable.byContradiction; intro hcon
      rw [List.getElem?_eq_none (by simp; omega)] at hj; cases hj
    have := hc j (by have := hsl.len; omega)
    rw [List.getElem?_map, List.getElem?_eq_getElem hjl] at hj
    simp at hj; subst hj
    rw [this, List.getD_eq_getElem?_getD, List.getElem?_eq_getElem hjl]; rfl
  · intro e
    refine ⟨?_, hmn e⟩
    apply Decidable.byContradiction; intro hcon
    obtain ⟨b, off, e2, _⟩ := hsl.2.2 (by omega)
    rw [e] at e2; cases e2
  · intro v' w' h2 h3
    rw [← List.map_append] at h2
    exact h v' w' h2 h3

theorem below_alloc {w w1 : World} {o : Obj} (hb : Below (w.alloc o).heap.size (w.alloc o) w1) : Below w.heap.size w w1 :=
  ((Below.refl _ _).alloc (Nat.le_refl _) _).trans (hb.mono (by simp))
theorem SL.alloc {w : World} {a n c zs} (h : SL w.heap.size w a n c zs) (o : Obj) : SL (w.alloc o).heap.size (w.alloc o) a n c zs :=
  h.go ((Below.refl _ _).alloc (Nat.le_refl _) _)

theorem SL.one (w : World) (x : Int) (t : TypeId) : SL (w.alloc (.cells #[.int .i64 x] t)).heap.size (w.alloc (.cells #[.int .i64 x] t)) (some ⟨w.heap.size, 0, none⟩) 1 1 [x] :=
  ⟨rfl, Nat.le_refl _, fun _ => ⟨w.heap.size, 0, rfl, by simp, fun j hj => by
    obtain rfl : j = 0 := by omega
    exact World.cell?_alloc_at _ _ _ _ rfl⟩⟩
/-- a row of the call's own is a slice -/
theorem owns_slice {w : World} {base : Nat} {t : TypeId} {size : Nat} {v : Value} {n : Nat} {xs : List Value} (h : w.ownsRow base t size v n xs) : ∃ a c, v = .slice a n c := by
  rcases h.2 with ⟨rfl, rfl⟩ | ⟨g, cap, cur, rfl, _⟩
  · exact ⟨_, _, rfl⟩
  · exact ⟨_, _, rfl⟩
theorem grown_below {w0 w w' : World} {o : Obj} {base B : Nat} {t : TypeId} {size : Nat} {v : Value} {n : Nat} {xs : List Value} (hb : Below B w0 w) (hown : w.ownsRow base t size v n xs) (hg : (w.alloc o).grownBy w' v.ownBlock)
    (hB : B ≤ base) (hbase : base ≤ w.heap.size) : Below B w0 w' :=
  (hb.alloc (by omega) o).grown hg (by simp; omega) (fun k hk => by have := (hown.lt k hk).1; omega)

theorem obj_setCell {w : World} {b : Nat} {cs : Array Value} {t : TypeId} (h : w.heap[b]? = some (.cells cs t (0, 0))) (i : Nat) (u : Value) :
    (w.setCell ⟨b, i, none⟩ u).heap[b]? = some (.cells (cs.setIfInBounds i u) t (0, 0)) := by
  have hlt := lt_of_block h
  have h' : w.heap[b] = .cells cs t (0, 0) := by simpa [Array.getElem?_eq_getElem hlt] using h
  show (w.heap.modify b _)[b]? = _
  rw [Array.getElem?_eq_getElem (by simpa using hlt), Array.getElem_modify_self, h']
  rfl
theorem obj_other {w : World} {b : Nat} {o : Obj} (h : w.heap[b]? = some o) (p : Addr) (hp : p.block ≠ b) (u : Value) : (w.setCell p u).heap[b]? = some o :=
  (Below.heap_setCell _ _ _ _ (fun e => hp e.symm)).trans h

end Go.Proofs.YtgohdcccfkjooaaGreatDoor

namespace Go.Proofs.YtgohdcccfkjooaaGreatDoor
open Go.RowKit

/-! from SizeA -/

/-! from SizeB -/

/-- Plus, the first loop: the second one's first k digits are added. -/
def P1 (xs ys : List Int) (n k : Nat) (out : List Int) : Prop :=
  out.length = n + 1 ∧ (∀ j, 0 ≤ out.getD j 0 ∧ out.getD j 0 ≤ 1999999998) ∧ (∀ j, k ≤ j → out.getD j 0 < 1000000000) ∧ out.getD n 0 = 0 ∧ val out = val xs + val (ys.take k)

/-- Plus, the second loop: the first k carries are taken. -/
def P2 (v : Int) (n k : Nat) (out : List Int) : Prop :=
  out.length = n + 1 ∧ (∀ j, 0 ≤ out.getD j 0 ∧ out.getD j 0 ≤ 1999999999) ∧ (∀ j, j < k → out.getD j 0 < 1000000000) ∧ (∀ j, k < j → out.getD j 0 ≤ 1999999998) ∧
    (k < n → out.getD n 0 = 0) ∧ (k = n → out.getD n 0 ≤ 1) ∧ val out = v

theorem P2.dig {v : Int} {n : Nat} {out : List Int} (h : P2 v n n out) : Dig out ∧ val out = v := by
  obtain ⟨h1, h2, h3, h4, h5, h6, h7⟩ := h
  refine ⟨fun j hj => ⟨(h2 j).1, ?_⟩, h7⟩
  by_cases e : j = n
  · subst e; have := h6 rfl; omega
  · exact h3 j (by omega)

/-! from SizeC -/

/-- Minus, the second loop: the first k borrows are taken. -/
def M2 (v : Int) (n k : Nat) (out : List Int) : Prop :=
  out.length = n ∧ (∀ j, -1000000000 ≤ out.getD j 0 ∧ out.getD j 0 < 1000000000) ∧ (∀ j, j < k → 0 ≤ out.getD j 0) ∧ (∀ j, k < j → -999999999 ≤ out.getD j 0) ∧ val out = v

/-- where all digits below are 0 or more, and the highest is negative, the value is negative -/
theorem val_neg_of {l : List Int} {k : Nat} (h : ∀ j, j < l.length → l.getD j 0 < 1000000000) (hk : k < l.length) (hl : k + 1 = l.length) (hn : l.getD k 0 < 0) : val l < 0 := by
  have e : l = l.take (k + 1) := by rw [List.take_of_length_le (by omega)]
  rw [e, val_take_succ hk]
  have hlt : val (l.take k) < 1000000000 ^ k := by
    have : ∀ (m : List Int), (∀ j, j < m.length → m.getD j 0 < 1000000000) → val m < 1000000000 ^ m.length := by
      intro m
      induction m with
      | nil => intro _; simp [val]
      | cons d m ih =>
        intro hh
        have h0 := hh 0 (by simp)
        have := ih (fun j hj => by simpa using hh (j + 1) (by simpa using hj))
        simp only [List.getD_cons_zero] at h0
        simp only [val, List.length_cons, Int.pow_succ]; omega
    have h2 := this (l.take k) (fun j hj => by rw [getD_take (by rw [List.length_take] at hj; omega)]; exact h j (by rw [List.length_take] at hj; omega))
    rw [List.length_take, Nat.min_eq_left (by omega)] at h2; exact h2
  have hp : (0 : Int) < 1000000000 ^ k := Int.pow_pos (by omega)
  have : l.getD k 0 * 1000000000 ^ k ≤ -1 * 1000000000 ^ k := Int.mul_le_mul_of_nonneg_right (by omega) (by omega)
  omega

/-- the highest digit of a value that is not negative is never borrowed from -/
theorem M2.last {v : Int} {n k : Nat} {out : List Int} (h : M2 v n k out) (hv : 0 ≤ v) (hk : k < n) (hs : out.getD k 0 < 0) : k + 1 < n := by
  obtain ⟨h1, h2, h3, h4, h5⟩ := h
  apply Decidable.byContradiction; intro hc
  have := val_neg_of (l := out) (k := k) (fun j _ => (h2 j).2) (by omega) (by omega) hs
  omega

theorem M2.dig {v : Int} {n : Nat} {out : List Int} (h : M2 v n n out) : Dig out ∧ val out = v := by
  obtain ⟨h1, h2, h3, h4, h5⟩ := h
  exact ⟨fun j hj => ⟨h3 j (by omega), (h2 j).2⟩, h5⟩

/-! from SizeD -/

/-- Times, behind the first i digits -/
def T1 (xs ys : List Int) (i : Nat) (out : List Int) : Prop :=
  out.length = xs.length + ys.length ∧ (∀ j, 0 ≤ out.getD j 0 ∧ out.getD j 0 < 1000000000) ∧ (∀ j, i + ys.length ≤ j → out.getD j 0 = 0) ∧ val out = val (xs.take i) * val ys

/-- Times, in round i behind the first k digits -/
def T2 (xs ys : List Int) (i k : Nat) (carry : Int) (out : List Int) : Prop :=
  out.length = xs.length + ys.length ∧ (∀ j, 0 ≤ out.getD j 0 ∧ out.getD j 0 < 1000000000) ∧ (∀ j, i + ys.length ≤ j → out.getD j 0 = 0) ∧ 0 ≤ carry ∧ carry < 1000000000 ∧
    val out + carry * 1000000000 ^ (i + k) = val (xs.take i) * val ys + xs.getD i 0 * val (ys.take k) * 1000000000 ^ i

theorem mul_bounds {x y : Int} (hx : 0 ≤ x ∧ x < 1000000000) (hy : 0 ≤ y ∧ y < 1000000000) : 0 ≤ x * y ∧ x * y ≤ 999999998000000001 := by
  refine ⟨Int.mul_nonneg hx.1 hy.1, ?_⟩
  have a : x * y ≤ 999999999 * y := Int.mul_le_mul_of_nonneg_right (by omega) hy.1
  omega

/-! from LongA -/

/-- a valid long integer, as its sign and its slice, with the value z -/
def LG (N : Nat) (w : World) (s : Bool) (a : Option Addr) (n c : Nat) (z : Int) : Prop :=
  s = decide (z < 0) ∧ SL N w a n c (digs z.natAbs) ∧ n ≤ 600

theorem LG.below {N M w w' s a n c z} (h : LG N w s a n c z) (hb : Below M w w') (hN : N ≤ M) : LG N w' s a n c z := ⟨h.1, h.2.1.below hb hN, h.2.2⟩
theorem LG.mono {N M w s a n c z} (h : LG N w s a n c z) (hN : N ≤ M) : LG M w s a n c z := ⟨h.1, h.2.1.mono hN, h.2.2⟩
theorem LG.go {w w' s a n c z} (h : LG w.heap.size w s a n c z) (hb : Below w.heap.size w w') : LG w'.heap.size w' s a n c z := ⟨h.1, h.2.1.go hb, h.2.2⟩
theorem LG.zero (N : Nat) (w : World) (a : Option Addr) (c : Nat) : LG N w false a 0 c 0 := ⟨rfl, by simpa [digs_zero] using SL.nil N w a c, by omega⟩

theorem LG.setCell {N w s a n c z} (h : LG N w s a n c z) (p : Addr) (u : Value) (hne : ∀ b off, a = some ⟨b, off, none⟩ → 0 < n → b ≠ p.block) : LG N (w.setCell p u) s a n c z :=
  ⟨h.1, h.2.1.setCell p u hne, h.2.2⟩

/-! from LongB -/

theorem heap_two (w : World) (o p : Obj) : ((w.alloc o).alloc p).heap[w.heap.size]? = some o ∧ ((w.alloc o).alloc p).heap[w.heap.size + 1]? = some p := by
  constructor
  · rw [Below.heap_alloc _ _ _ (by simp)]; exact heap_alloc_new _ _
  · have := heap_alloc_new (w.alloc o) p
    simpa using this

theorem length_digs_int (n : Int) (h1 : -9223372036854775808 ≤ n) (h2 : n ≤ 9223372036854775807) : (digs n.natAbs).length ≤ 3 :=
  length_digs_le (by simp; omega)

/-! from LongC -/

theorem below_two {w : World} (o p : Obj) : Below w.heap.size w ((w.alloc o).alloc p) := ((Below.refl _ _).alloc (Nat.le_refl _) _).alloc (by simp) _

/-! from LongD -/

/-! from LongE -/

/-! from YieldA -/

/-! from RowL -/

/-- where a long integer lies: its sign and its slice -/
structure LP where
  s : Bool
  a : Option Addr
  n : Nat
  c : Nat

def LP.cells (p : LP) : List Value := [.bool p.s, .slice p.a p.n p.c]
def flat (ps : List LP) : List Value := ps.flatMap LP.cells
def LP.none : LP := ⟨false, Option.none, 0, 0⟩
def LP.at (N : Nat) (w : World) (p : LP) (z : Int) : Prop := LG N w p.s p.a p.n p.c z
/-- it lies in no block below B -/
def LP.above (p : LP) (B : Nat) : Prop := ∀ b off, p.a = some ⟨b, off, Option.none⟩ → 0 < p.n → B ≤ b
/-- it does not lie in block g -/
def LP.off (p : LP) (g : Nat) : Prop := ∀ b off, p.a = some ⟨b, off, Option.none⟩ → 0 < p.n → b ≠ g

theorem length_flat (ps : List LP) : (flat ps).length = ps.length * 2 := by
  induction ps with
  | nil => rfl
  | cons p ps ih => simp only [flat, List.flatMap_cons, List.length_append, List.length_cons] at ih ⊢; rw [ih]; simp [LP.cells]; omega
theorem flat_append (ps qs : List LP) : flat (ps ++ qs) = flat ps ++ flat qs := List.flatMap_append
theorem flat_get (ps : List LP) (j : Nat) (h : j < ps.length) : (flat ps)[j * 2]? = some (.bool (ps.getD j LP.none).s) ∧ (flat ps)[j * 2 + 1]? = some (.slice (ps.getD j LP.none).a (ps.getD j LP.none).n (ps.getD j LP.none).c) := by
  induction ps generalizing j with
  | nil => simp at h
  | cons p ps ih =>
    cases j with
    | zero => simp [flat, LP.cells]
    | succ j =>
      have := ih j (by simpa using h)
      simp only [flat, List.flatMap_cons, LP.cells] at this ⊢
      rw [show (j + 1) * 2 = (j * 2) + 2 by omega, show (j * 2) + 2 + 1 = (j * 2 + 1) + 2 by omega]
      simpa using this
theorem flat_set (ps : List LP) (j : Nat) (h : j < ps.length) (p : LP) : flat (ps.set j p) = ((flat ps).set (j * 2) (.bool p.s)).set (j * 2 + 1) (.slice p.a p.n p.c) := by
  induction ps generalizing j with
  | nil => simp at h
  | cons q ps ih =>
    cases j with
    | zero => simp [flat, LP.cells]
    | succ j =>
      have := ih j (by simpa using h)
      simp only [flat, List.set_cons_succ, List.flatMap_cons, LP.cells] at this ⊢
      rw [this, show (j + 1) * 2 = (j * 2) + 2 by omega, show (j * 2) + 2 + 1 = (j * 2 + 1) + 2 by omega]
      simp

theorem LG.grown {N : Nat} {w w' : World} {row : Option Nat} {s : Bool} {a : Option Addr} {n c : Nat} {z : Int} (h : LG N w s a n c z) (hg : w.grownBy w' row) (hne : ∀ b off, a = some ⟨b, off, none⟩ → 0 < n → some b ≠ row) : LG N w' s a n c z := by
  refine ⟨h.1, ⟨h.2.1.1, h.2.1.2.1, fun h0 => ?_⟩, h.2.2⟩
  obtain ⟨b, off, e, hlt, hc⟩ := h.2.1.2.2 h0
  exact ⟨b, off, e, hlt, fun j hj => hg.cell (hc j hj) (hne b off e h0)⟩

/-- a row of long integers of the call's own, in block g; all of it below N -/
def RowL (N base : Nat) (w : World) (g cap : Nat) (zs : List Int) : Prop :=
  ∃ ps : List LP, base ≤ g ∧ g < N ∧ w.ownsRow base 221 2 (.slice (some ⟨g, 0, none⟩) zs.length cap) zs.length (flat ps) ∧ ps.length = zs.length ∧
    ∀ j, j < zs.length → LP.at N w (ps.getD j LP.none) (zs.getD j 0) ∧ (ps.getD j LP.none).off g ∧ (ps.getD j LP.none).above base

theorem RowL.base_le {N base w g cap zs} (h : RowL N base w g cap zs) : base ≤ g := let ⟨_, h, _⟩ := h; h
theorem RowL.lt {N base w g cap zs} (h : RowL N base w g cap zs) : g < N := let ⟨_, _, h, _⟩ := h; h

theorem RowL.mono {N N' base w g cap zs} (h : RowL N base w g cap zs) (hN : N ≤ N') : RowL N' base w g cap zs := by
  obtain ⟨ps, h1, h2, h3, h4, h5⟩ := h
  exact ⟨ps, h1, by omega, h3, h4, fun j hj => ⟨LG.mono (h5 j hj).1 hN, (h5 j hj).2⟩⟩

theorem RowL.keep {N base w w' g cap zs} (h : RowL N base w g cap zs) (hb : Below N w w') : RowL N base w' g cap zs := by
  obtain ⟨ps, h1, h2, h3, h4, h5⟩ := h
  refine ⟨ps, h1, h2, ?_, h4, fun j hj => ⟨LG.below (h5 j hj).1 hb (Nat.le_refl _), (h5 j hj).2⟩⟩
  obtain ⟨l, r⟩ := h3
  refine ⟨l, r.imp id ?_⟩
  rintro ⟨g', cap', cur, e, q1, q2, q3⟩
  have : g' = g := by injection e with e1 e2 e3; injection e1 with e1; injection e1 with e1; exact e1.symm
  exact ⟨g', cap', cur, e, q1, (hb.block g' (by omega)).trans q2, q3⟩

theorem RowL.go {base w w' g cap zs} (h : RowL w.heap.size base w g cap zs) (hb : Below w.heap.size w w') : RowL w'.heap.size base w' g cap zs := (h.keep hb).mono hb.size

/-- one of its long integers -/
theorem RowL.get {N base w g cap zs} (h : RowL N base w g cap zs) {j : Nat} (hj : j < zs.length) :
    ∃ s a n c, w.cell? ⟨g, j * 2, none⟩ = some (.bool s) ∧ w.cell? ⟨g, j * 2 + 1, none⟩ = some (.slice a n c) ∧ LG N w s a n c (zs.getD j 0) ∧ Fresh base a n := by
  obtain ⟨ps, h1, h2, h3, h4, h5⟩ := h
  obtain ⟨f1, f2⟩ := flat_get ps j (by omega)
  rcases (owns_cells h3).2 with ⟨e, _⟩ | ⟨g', cap', e, q1, q2, q3⟩
  · cases e
  · obtain rfl : g' = g := by injection e with e1 e2 e3; injection e1 with e1; injection e1 with e1; exact e1.symm
    have hl := length_flat ps
    have a1 := q3.cell (j := j * 2) (by omega)
    have a2 := q3.cell (j := j * 2 + 1) (by omega)
    rw [List.getElem?_eq_getElem (by omega)] at f1 f2
    injection f1 with f1; injection f2 with f2
    exact ⟨_, _, _, _, a1.trans (by rw [f1]), a2.trans (by rw [f2]), (h5 j hj).1, (h5 j hj).2.2⟩

theorem RowL.free {N base w g cap zs} (h : RowL N base w g cap zs) (j : Nat) : w.frozen? ⟨g, j, none⟩ = false := by
  obtain ⟨ps, h1, h2, h3, h4, h5⟩ := h
  rcases (owns_cells h3).2 with ⟨e, _⟩ | ⟨g', cap', e, q1, q2, q3⟩
  · cases e
  · obtain rfl : g' = g := by injection e with e1 e2 e3; injection e1 with e1; injection e1 with e1; exact e1.symm
    exact q3.free j

/-- one of its long integers is written -/
theorem RowL.set {base w g cap zs} (h : RowL w.heap.size base w g cap zs) {j : Nat} (hj : j < zs.length) {s : Bool} {a : Option Addr} {n c : Nat} {z : Int} (hz : LG w.heap.size w s a n c z)
    (hoff : ∀ b off, a = some ⟨b, off, none⟩ → 0 < n → b ≠ g) (hab : Fresh base a n) : RowL ((w.setCell ⟨g, j * 2, none⟩ (.bool s)).setCell ⟨g, j * 2 + 1, none⟩ (.slice a n c)).heap.size base ((w.setCell ⟨g, j * 2, none⟩ (.bool s)).setCell ⟨g, j * 2 + 1, none⟩ (.slice a n c)) g cap (zs.set j z) := by
  obtain ⟨ps, h1, h2, h3, h4, h5⟩ := h
  have hkeep : ∀ {p : LP} {y : Int}, p.at w.heap.size w y → p.off g → p.at ((w.setCell ⟨g, j * 2, none⟩ (.bool s)).setCell ⟨g, j * 2 + 1, none⟩ (.slice a n c)).heap.size ((w.setCell ⟨g, j * 2, none⟩ (.bool s)).setCell ⟨g, j * 2 + 1, none⟩ (.slice a n c)) y := by
    intro p y h1 h2
    have := (LG.setCell h1 ⟨g, j * 2, none⟩ (.bool s) h2).setCell ⟨g, j * 2 + 1, none⟩ (.slice a n c) h2
    unfold LP.at
    simpa using this
  refine ⟨ps.set j ⟨s, a, n, c⟩, h1, by simpa using h2, ?_, by simpa using h4, fun i hi => ?_⟩
  · rcases h3.2 with ⟨e, _⟩ | ⟨g', cap', cur, e, q1, q2, q3, q4, q5, q6⟩
    · cases e
    · obtain rfl : g' = g := by injection e with e1 e2 e3; injection e1 with e1; injection e1 with e1; exact e1.symm
      obtain rfl : cap' = cap := by injection e with e1 e2 e3; exact e3.symm
      have hl := length_flat ps
      have b1 : j * 2 + 1 < zs.length * 2 := by omega
      refine ⟨by rw [length_flat]; simp [h4], Or.inr ⟨g', cap', (cur.setIfInBounds (j * 2) (.bool s)).setIfInBounds (j * 2 + 1) (.slice a n c), by simp, q1, ?_, by simpa using q3, q4, by simpa using q5, ?_⟩⟩
      · exact obj_setCell (obj_setCell q2 (j * 2) (.bool s)) (j * 2 + 1) (.slice a n c)
      · rw [flat_set ps j (by omega), ← q6]
        simp only [Array.toList_setIfInBounds, List.length_set]
        rw [List.take_set, List.take_set]
  · rw [List.length_set] at hi
    simp only [List.getD_eq_getElem?_getD, List.getElem?_set]
    by_cases e : j = i
    · subst e
      rw [if_pos rfl, if_pos (by omega), if_pos rfl, if_pos (by omega)]
      exact ⟨hkeep (p := ⟨s, a, n, c⟩) hz hoff, hoff, hab⟩
    · rw [if_neg e, if_neg e, ← List.getD_eq_getElem?_getD, ← List.getD_eq_getElem?_getD]
      exact ⟨hkeep (h5 i hi).1 (h5 i hi).2.1, (h5 i hi).2⟩

/-- a row of one -/
theorem RowL.one {w : World} {s : Bool} {a : Option Addr} {n c : Nat} {z : Int} (hz : LG w.heap.size w s a n c z) {base : Nat} (hb : base ≤ w.heap.size) (hab : Fresh base a n) :
    RowL (w.alloc (.cells #[.bool s, .slice a n c] 221)).heap.size base (w.alloc (.cells #[.bool s, .slice a n c] 221)) w.heap.size 1 [z] := by
  refine ⟨[⟨s, a, n, c⟩], hb, by simp, ?_, rfl, fun j hj => ?_⟩
  · refine ⟨rfl, Or.inr ⟨w.heap.size, 1, _, rfl, hb, heap_alloc_new _ _, Nat.le_refl _, by unfold maxLen; omega, rfl, rfl⟩⟩
  · obtain rfl : j = 0 := by simpa using hj
    refine ⟨?_, ?_, hab⟩
    · exact LG.go hz ((Below.refl _ _).alloc (Nat.le_refl _) _)
    · intro b off e h0
      obtain ⟨b', off', e', hlt, _⟩ := hz.2.1.2.2 h0
      have : b = b' := by rw [e'] at e; injection e with e; injection e with e; exact e.symm
      omega

/-- behind an append of others -/
theorem RowL.append {base : Nat} {w w' : World} {g cap : Nat} {zs ys : List Int} (h : RowL w.heap.size base w g cap zs) (qs : List LP) (hq : qs.length = ys.length) (hqs : ∀ j, j < ys.length → (qs.getD j LP.none).at w.heap.size w (ys.getD j 0) ∧ (qs.getD j LP.none).off g ∧ (qs.getD j LP.none).above base)
    {g' cap' : Nat} {ps : List LP} (hps : ps.length = zs.length ∧ ∀ j, j < zs.length → LP.at w.heap.size w (ps.getD j LP.none) (zs.getD j 0) ∧ (ps.getD j LP.none).off g ∧ (ps.getD j LP.none).above base)
    (hown : w'.ownsRow base 221 2 (.slice (some ⟨g', 0, none⟩) (zs.length + ys.length) cap') (zs.length + ys.length) (flat ps ++ flat qs)) (hgrow : w.grownBy w' (some g)) (hat : g = g' ∨ g' = w.heap.size) (hlt : g' < w'.heap.size) :
    RowL w'.heap.size base w' g' cap' (zs ++ ys) := by
  have hkeep : ∀ {p : LP} {y : Int}, p.at w.heap.size w y → p.off g → p.at w'.heap.size w' y ∧ p.off g' := by
    intro p y h1 h2
    refine ⟨(LG.grown h1 hgrow (fun b off e h0 => by have := h2 b off e h0; simpa using this)).mono hgrow.size, fun b off e h0 => ?_⟩
    rcases hat with rfl | rfl
    · exact h2 b off e h0
    · obtain ⟨b', off', e', hlt, _⟩ := h1.2.1.2.2 h0
      have : b = b' := by rw [e'] at e; injection e with e; injection e with e; exact e.symm
      omega
  refine ⟨ps ++ qs, ?_, hlt, by rw [flat_append, List.length_append]; exact hown, by rw [List.length_append, List.length_append, hps.1, hq], fun j hj => ?_⟩
  · rcases hat with rfl | rfl
    · exact h.base_le
    · exact Nat.le_trans h.base_le (Nat.le_of_lt h.lt)
  · rw [List.length_append] at hj
    by_cases hj2 : j < zs.length
    · have := hps.2 j hj2
      simp only [List.getD_eq_getElem?_getD] at this ⊢
      rw [List.getElem?_append_left (by omega), List.getElem?_append_left (by omega)]
      exact ⟨(hkeep this.1 this.2.1).1, (hkeep this.1 this.2.1).2, this.2.2⟩
    · have := hqs (j - zs.length) (by omega)
      simp only [List.getD_eq_getElem?_getD] at this ⊢
      rw [List.getElem?_append_right (by omega), List.getElem?_append_right (by omega), hps.1]
      exact ⟨(hkeep this.1 this.2.1).1, (hkeep this.1 this.2.1).2, this.2.2⟩

/-! from Only -/

structure OnlyB (b : Nat) (w w' : World) : Prop where
  os : w'.os = w.os
  tape : w'.tape = w.tape
  output : w'.output = w.output
  size : w'.heap.size = w.heap.size
  block : ∀ k, k ≠ b → w'.heap[k]? = w.heap[k]?

theorem OnlyB.refl (b : Nat) (w : World) : OnlyB b w w := ⟨rfl, rfl, rfl, rfl, fun _ _ => rfl⟩
theorem OnlyB.set {b : Nat} {w w' : World} (h : OnlyB b w w') (i : Nat) (u : Value) : OnlyB b w (w'.setCell ⟨b, i, none⟩ u) :=
  ⟨h.os, h.tape, h.output, by simp [h.size], fun k hk => (Below.heap_setCell _ _ _ _ hk).trans (h.block k hk)⟩
theorem OnlyB.below {b B : Nat} {w w' : World} (h : OnlyB b w w') (hB : B ≤ b) : Below B w w' := ⟨h.os, h.tape, h.output, by rw [h.size]; exact Nat.le_refl _, fun k hk => h.block k (by omega)⟩
theorem OnlyB.cell {b : Nat} {w w' : World} (h : OnlyB b w w') {p : Addr} (hp : p.block ≠ b) : w'.cell? p = w.cell? p := World.cell?_of_block (w := w) (h.block p.block hp)
theorem OnlyB.frozen {b : Nat} {w w' : World} (h : OnlyB b w w') {p : Addr} (hp : p.block ≠ b) : w'.frozen? p = w.frozen? p := World.frozen?_of_block (w := w) (h.block p.block hp)

/-- what stands in a block that is known whole -/
theorem obj_cell {w : World} {b : Nat} {cs : Array Value} {T : TypeId} (h : w.heap[b]? = some (.cells cs T (0, 0))) (i : Nat) : w.cell? ⟨b, i, none⟩ = cs[i]? := by simp [World.cell?, h]
theorem obj_free {w : World} {b : Nat} {cs : Array Value} {T : TypeId} (h : w.heap[b]? = some (.cells cs T (0, 0))) (i : Nat) : w.frozen? ⟨b, i, none⟩ = false := by simp [World.frozen?, h]


end Go.Proofs.YtgohdcccfkjooaaGreatDoor

namespace Go.Proofs.YtgohdcccfkjooaaGreatDoor
open Go.RowKit

end Go.Proofs.YtgohdcccfkjooaaGreatDoor

namespace Go.Proofs.YtgohdcccfkjooaaGreatDoor
open Go.RowKit

end Go.Proofs.YtgohdcccfkjooaaGreatDoor

namespace Go.Proofs.YtgohdcccfkjooaaGreatDoor
open Go.RowKit

/-- the slot lies below N, or in none of the blocks below M -/
def Out (N M : Nat) (a : Option Addr) (n : Nat) : Prop := ∀ b off, a = some ⟨b, off, none⟩ → 0 < n → b < N ∨ M ≤ b

theorem Out.mono {N M N' M' : Nat} {a : Option Addr} {n : Nat} (h : Out N M a n) (hN : N ≤ N') (hM : M' ≤ M) : Out N' M' a n := fun b off e h0 => by
  rcases h b off e h0 with h | h
  · exact Or.inl (by omega)
  · exact Or.inr (by omega)

end Go.Proofs.YtgohdcccfkjooaaGreatDoor

namespace Go.Proofs.YtgohdcccfkjooaaGreatDoor
open Go.RowKit

end Go.Proofs.YtgohdcccfkjooaaGreatDoor

namespace Go.Proofs.YtgohdcccfkjooaaGreatDoor
open Go.RowKit

theorem val_take_next (l : List Int) (k : Nat) : val (l.take (k + 1)) = val (l.take k) + l.getD k 0 * 1000000000 ^ k := by
  by_cases h : k < l.length
  · exact val_take_succ h
  · rw [List.take_of_length_le (by omega), List.take_of_length_le (by omega), List.getD_eq_getElem?_getD, List.getElem?_eq_none (by omega)]; simp

/-- the sum's digits, up to a place -/
def S1 (xs ys zs : List Int) (i : Nat) (cr : Int) : Prop :=
  zs.length = i ∧ Dig zs ∧ val zs + cr * 1000000000 ^ i = val (xs.take i) + val (ys.take i) ∧ 0 ≤ cr ∧ cr ≤ 1

theorem S1.last {xs ys zs : List Int} {i : Nat} (h : S1 xs ys zs i 0) (hx : xs.length ≤ i) (hy : ys.length ≤ i) : val zs = val xs + val ys := by
  have := h.2.2.1
  rw [List.take_of_length_le hx, List.take_of_length_le hy] at this
  omega

end Go.Proofs.YtgohdcccfkjooaaGreatDoor

namespace Go.Proofs.YtgohdcccfkjooaaGreatDoor
open Go.RowKit

end Go.Proofs.YtgohdcccfkjooaaGreatDoor

namespace Go.Proofs.YtgohdcccfkjooaaGreatDoor
open Go.RowKit

/-- the digits of a product, behind i whole rounds -/
def R0 (xs ys : List Int) (i : Nat) (out : List Int) : Prop :=
  out.length = xs.length + ys.length ∧ Dig out ∧ val out = val (xs.take i) * val ys
/-- in round i, behind k digits -/
def R1 (xs ys : List Int) (i k : Nat) (out : List Int) : Prop :=
  out.length = xs.length + ys.length ∧ Dig out ∧ val out = val (xs.take i) * val ys + xs.getD i 0 * val (ys.take k) * 1000000000 ^ i
/-- in round i, at digit k, with t to be laid from place j on -/
def R2 (xs ys : List Int) (i k j : Nat) (t : Int) (out : List Int) : Prop :=
  out.length = xs.length + ys.length ∧ Dig out ∧ 0 ≤ t ∧ t ≤ 999999998000000001 ∧ val out + t * 1000000000 ^ j = val (xs.take i) * val ys + xs.getD i 0 * val (ys.take (k + 1)) * 1000000000 ^ i

theorem R0.row {xs ys out : List Int} {i : Nat} (h : R0 xs ys i out) : R1 xs ys i 0 out := ⟨h.1, h.2.1, by rw [h.2.2]; simp [val]⟩
theorem R1.dig {xs ys out : List Int} {i k : Nat} (h : R1 xs ys i k out) (hx : Dig xs) (hy : Dig ys) : R2 xs ys i k (i + k) (xs.getD i 0 * ys.getD k 0) out := by
  obtain ⟨h1, h2, h3⟩ := h
  have b := mul_bounds (hx.all i) (hy.all k)
  refine ⟨h1, h2, b.1, b.2, ?_⟩
  rw [h3, val_take_next, Int.mul_add, Int.add_mul, Int.pow_add, Int.add_assoc]
  congr 2
  rw [Int.mul_assoc, Int.mul_assoc, Int.mul_assoc, Int.mul_comm (1000000000 ^ i)]
end Go.Proofs.YtgohdcccfkjooaaGreatDoor

namespace Go.Proofs.YtgohdcccfkjooaaGreatDoor

theorem val_take_all (l : List Int) {k : Nat} (h : l.length ≤ k) : val (l.take k) = val l := by rw [List.take_of_length_le h]

theorem lt_of_pow_mul_lt {a b p : Int} (hp : 0 < p) (h : a * p < b * p) : a < b := Int.lt_of_mul_lt_mul_right h (by omega)

/-- how often, by the highest digits -/
theorem often {x y m : Nat} (_ : 0 < y) (hm : m + 1 = (digs y).length) (hxy : x < y * 1000000000) (hle : y ≤ x) {hi top bt : Int}
    (h1 : (digs x).getD (m + 1) 0 = hi) (h2 : (digs x).getD m 0 = top) (h3 : (digs y).getD m 0 = bt) {k : Int} (hk : k = if (hi * 1000000000 + top) / (bt + 1) = 0 then 1 else (hi * 1000000000 + top) / (bt + 1)) :
    1 ≤ k ∧ k < 1000000000 ∧ k * y ≤ x ∧ 0 ≤ hi ∧ hi < 1000000000 ∧ 0 ≤ top ∧ top < 1000000000 ∧ 0 ≤ bt ∧ bt < 1000000000 := by
  have d1 := (dig_digs x).all (m + 1)
  have d2 := (dig_digs x).all m
  have d3 := (dig_digs y).all m
  rw [h1] at d1; rw [h2] at d2; rw [h3] at d3
  have hlx : (digs x).length ≤ m + 2 := by
    refine length_digs_le ?_
    have := digs_lt y
    rw [← hm] at this
    calc x < y * 1000000000 := hxy
      _ ≤ 1000000000 ^ (m + 1) * 1000000000 := Nat.mul_le_mul_right _ (by omega)
      _ = 1000000000 ^ (m + 2) := (Nat.pow_succ ..).symm
  have ex : (x : Int) = val ((digs x).take m) + (top + hi * 1000000000) * 1000000000 ^ m := by
    rw [← val_digs x, ← val_take_all (digs x) hlx, val_take_next, val_take_next, h1, h2, Int.pow_succ, Int.add_mul]
    rw [show hi * (1000000000 ^ m * 1000000000) = hi * 1000000000 * 1000000000 ^ m by rw [Int.mul_comm (1000000000 ^ m), Int.mul_assoc]]
    rw [Int.add_assoc]
  have ey : (y : Int) = val ((digs y).take m) + bt * 1000000000 ^ m := by
    rw [← val_digs y, ← val_take_all (digs y) (k := m + 1) (by omega), val_take_next, h3]
  have px : 0 ≤ val ((digs x).take m) := val_nonneg ((dig_digs x).take m)
  have py : val ((digs y).take m) < 1000000000 ^ m := by
    have := val_lt ((dig_digs y).take m)
    rw [List.length_take, Nat.min_eq_left (by omega)] at this
    exact this
  have hp : (0 : Int) < 1000000000 ^ m := Int.pow_pos (by decide)
  generalize hP : (1000000000 : Int) ^ m = p at *
  have hyb : (y : Int) < (bt + 1) * p := by rw [Int.add_mul]; omega
  have hA : (hi * 1000000000 + top) * p ≤ x := by rw [Int.add_comm (hi * 1000000000)]; omega
  have hT : hi * 1000000000 + top < (bt + 1) * 1000000000 := by
    refine lt_of_pow_mul_lt hp ?_
    have : (x : Int) < y * 1000000000 := by omega
    have h4 : (y : Int) * 1000000000 ≤ (bt + 1) * p * 1000000000 := Int.mul_le_mul_of_nonneg_right (by omega) (by decide)
    rw [Int.mul_assoc, Int.mul_comm p, ← Int.mul_assoc] at h4
    omega
  generalize hu : hi * 1000000000 + top = u at *
  have hu0 : 0 ≤ u := by omega
  have hq0 : 0 ≤ u / (bt + 1) := Int.ediv_nonneg hu0 (by omega)
  have hq1 : u / (bt + 1) < 1000000000 := by
    refine Int.ediv_lt_of_lt_mul (by omega) ?_
    rw [Int.mul_comm]; exact hT
  have hq2 : u / (bt + 1) * (bt + 1) ≤ u := Int.ediv_mul_le _ (by omega)
  refine ⟨?_, ?_, ?_, d1.1, d1.2, d2.1, d2.2, d3.1, d3.2⟩
  · rw [hk]; split <;> omega
  · rw [hk]; split <;> omega
  · rw [hk]; split
    · omega
    · have h5 : u / (bt + 1) * (y : Int) ≤ u / (bt + 1) * ((bt + 1) * p) := Int.mul_le_mul_of_nonneg_left (by omega) hq0
      rw [← Int.mul_assoc] at h5
      have h6 : u / (bt + 1) * (bt + 1) * p ≤ u * p := Int.mul_le_mul_of_nonneg_right hq2 (by omega)
      omega

end Go.Proofs.YtgohdcccfkjooaaGreatDoor

namespace Go.Proofs.YtgohdcccfkjooaaGreatDoor
open Go.RowKit

section
variable {P : Program} {ops : Array Oper} {Q : Exit → Act → World → Prop} {md : Region.Mode}

theorem wpOp_put {j : Nat} {oj : Oper} {d : Tmp} {u : Value} (hj : ops[j]? = some oj) (h1 : d ∉ oj.looksAt ops) (h2 : oj.dst ≠ some d)
    (hsj : ∀ cs b, oj.op ≠ .select cs b) (hQ : ∀ c a w, Q (.panic c) a w → Q (.panic c) (a.put (some d) u) w) {K K' : Act → World → Prop} {a : Act} {w : World}
    (hK : ∀ a' w', K a' w' → K' (a'.put (some d) u) w') (h : wpOp P ops Q j K a w) : wpOp P ops Q j K' (a.put (some d) u) w := by
  have h1' : ∀ e, some d = some e → e ∉ oj.looksAt ops := fun e he => by cases he; exact h1
  have h2' : ∀ e, (some d : Option Tmp) = some e → oj.dst ≠ some e := fun e he => by cases he; exact h2
  unfold wpOp at *
  simp only [hj] at *
  rw [wanted_put oj a (some d) u h1']
  split
  · rename_i hw
    simp only [hw, if_true] at h
    rcases h with h | ⟨hasks, hlets⟩
    case inr => exact .inr ⟨by unfold Oper.asks at *; rw [execOp_put oj hsj a (some d) u h1']; exact hasks, hlets⟩
    refine .inl ?_
    unfold Oper.wp at *
    rw [execOp_put oj hsj a (some d) u h1']
    generalize (execOp a.eval oj).run P w = r at *
    cases r with
    | ok n w' =>
      cases n <;> simp only [Oper.upon] at h ⊢
      case value v => rw [Act.put_comm a u v h2']; exact hK _ _ h
      case skip => rw [Act.put_comm a u undef h2']; exact hK _ _ h
      case defer e =>
        rw [Act.put_defers, Act.put_comm _ u undef h2']
        exact hK _ _ h
      case enter f args =>
        refine Calls.mono h fun e w'' he => ?_
        cases e with
        | returned v =>
          show K' ((a.put (some d) u).put oj.dst v) w''
          rw [Act.put_comm a u v h2']
          exact hK _ _ he
        | panicked c => exact hQ _ _ _ he
        | outgrown => exact he
      case row row args => exact Rows.mono h fun v w'' he => by rw [Act.put_comm a u v h2']; exact hK _ _ he
    | halt x w' =>
      cases x <;> simp only [Oper.upon] at h ⊢
      case panic v => exact hQ _ _ _ h
  · rename_i hw
    simp only [hw] at h
    rw [Act.put_comm a u undef h2']
    exact hK _ _ h

theorem apart_out {x y : Oper} {d : Tmp} (hx : x.dst = some d) (h : x.apart ops y = true) : d ∉ y.looksAt ops ∧ y.dst ≠ some d :=
  let ⟨h1, h2, _⟩ := Oper.apart_spec h; ⟨h1 d hx, h2 d hx⟩

end
end Go.Proofs.YtgohdcccfkjooaaGreatDoor

namespace Go.Proofs.YtgohdcccfkjooaaGreatDoor
open Go.RowKit

section
variable {P : Program} {ops : Array Oper} {Q : Exit → Act → World → Prop} {md : Region.Mode}

theorem getD_set_true (l : Array Bool) (k : Nat) : (l.setIfInBounds k true).getD k true = true := by
  rw [Array.getD_eq_getD_getElem?, Array.getElem?_setIfInBounds, if_pos rfl]
  split <;> rfl

/-- the variables: number of the operation, slot, what is made -/
def putS : List (Nat × Tmp × Obj) → List (Option Nat) → Act → Act
  | (_, d, _) :: fs, some b :: os, a => putS fs os (a.put (some d) (.pointer (some ⟨b, 0, none⟩)))
  | _ :: fs, none :: os, a => putS fs os a
  | _, _, a => a
def setS : List (Nat × Tmp × Obj) → List (Option Nat) → Array Bool → Array Bool
  | (k, _, _) :: fs, some _ :: os, l => setS fs os (l.setIfInBounds k true)
  | _ :: fs, none :: os, l => setS fs os l
  | _, _, l => l

theorem setS_set (k : Nat) : ∀ (fs : List (Nat × Tmp × Obj)) (os : List (Option Nat)) (l : Array Bool), setS fs os (l.setIfInBounds k true) = (setS fs os l).setIfInBounds k true
  | [], _, _ => by simp [setS]
  | _ :: _, [], _ => by simp [setS]
  | (k', d, Z) :: fs, none :: os, l => by simp only [setS]; exact setS_set k fs os l
  | (k', d, Z) :: fs, some b :: os, l => by
    simp only [setS]
    by_cases h : k = k'
    · subst h
      rw [← setS_set k fs os]
    · rw [Array.setIfInBounds_comm _ _ h, setS_set k fs os]

theorem putS_put {x : Option Tmp} {v : Value} : ∀ (fs : List (Nat × Tmp × Obj)) (os : List (Option Nat)) (a : Act), (∀ f ∈ fs, x ≠ some f.2.1) → putS fs os (a.put x v) = (putS fs os a).put x v
  | [], _, _, _ => by simp [putS]
  | _ :: _, [], _, _ => by simp [putS]
  | (k', d, Z) :: fs, none :: os, a, h => by simp only [putS]; exact putS_put fs os a (fun f hf => h f (List.mem_cons_of_mem _ hf))
  | (k', d, Z) :: fs, some b :: os, a, h => by
    simp only [putS]
    have := h _ (List.mem_cons_self ..)
    rw [Act.put_comm a (x := x) (y := some d) v _ (fun e he => by rw [he] at this; exact fun h => this h.symm), putS_put fs os _ (fun f hf => h f (List.mem_cons_of_mem _ hf))]

theorem putS_fire {b : Nat} : ∀ (fs : List (Nat × Tmp × Obj)) (os : List (Option Nat)) (a : Act) (j : Nat) (f : Nat × Tmp × Obj), fs[j]? = some f → os[j]? = some none → (fs.map fun f => f.2.1).Nodup →
    putS fs (os.set j (some b)) a = (putS fs os a).put (some f.2.1) (.pointer (some ⟨b, 0, none⟩))
  | [], _, _, _, _, h, _, _ => by simp at h
  | _ :: _, [], _, _, _, _, h, _ => by simp at h
  | (k', d, Z) :: fs, o :: os, a, 0, f, h1, h2, hn => by
    simp at h1 h2
    subst h1 h2
    simp only [List.set_cons_zero, putS]
    refine putS_put fs os a (fun f hf e => ?_)
    simp only [List.map_cons, List.nodup_cons] at hn
    exact hn.1 (List.mem_map.2 ⟨f, hf, by cases e; rfl⟩)
  | (k', d, Z) :: fs, o :: os, a, j + 1, f, h1, h2, hn => by
    simp only [List.getElem?_cons_succ] at h1 h2
    simp only [List.map_cons, List.nodup_cons] at hn
    simp only [List.set_cons_succ]
    cases o with
    | none => simp only [putS]; exact putS_fire fs os a j f h1 h2 hn.2
    | some c => simp only [putS]; exact putS_fire fs os _ j f h1 h2 hn.2

theorem setS_fire {b : Nat} : ∀ (fs : List (Nat × Tmp × Obj)) (os : List (Option Nat)) (l : Array Bool) (j : Nat) (f : Nat × Tmp × Obj), fs[j]? = some f → os[j]? = some none →
    setS fs (os.set j (some b)) l = (setS fs os l).setIfInBounds f.1 true
  | [], _, _, _, _, h, _ => by simp at h
  | _ :: _, [], _, _, _, _, h => by simp at h
  | (k', d, Z) :: fs, o :: os, l, 0, f, h1, h2 => by
    simp at h1 h2
    subst h1 h2
    simp only [List.set_cons_zero, setS]
    exact setS_set k' fs os l
  | (k', d, Z) :: fs, o :: os, l, j + 1, f, h1, h2 => by
    simp only [List.getElem?_cons_succ] at h1 h2
    simp only [List.set_cons_succ]
    cases o with
    | none => simp only [setS]; exact setS_fire fs os l j f h1 h2
    | some c => simp only [setS]; exact setS_fire fs os _ j f h1 h2

/-- all of them made -/
def fullS (fs : List (Nat × Tmp × Obj)) (l : Array Bool) : Array Bool := fs.foldl (fun l f => l.setIfInBounds f.1 true) l

theorem ready_S {j : Nat} : ∀ (fs : List (Nat × Tmp × Obj)) (os : List (Option Nat)) (l : Array Bool), (∀ (i b : Nat) (f : Nat × Tmp × Obj), fs[i]? = some f → os[i]? = some (some b) → j ≠ f.1) → j ∈ Region.ready md ops l → j ∈ Region.ready md ops (setS fs os l)
  | [], _, _, _, h => by simpa [setS] using h
  | _ :: _, [], _, _, h => by simpa [setS] using h
  | (k, d, Z) :: fs, none :: os, l, hn, h => by simp only [setS]; exact ready_S fs os l (fun i b f h1 h2 => hn (i + 1) b f (by simpa using h1) (by simpa using h2)) h
  | (k, d, Z) :: fs, some b :: os, l, hn, h => by
    simp only [setS]; exact ready_S fs os _ (fun i b f h1 h2 => hn (i + 1) b f (by simpa using h1) (by simpa using h2)) (ready_mono h (hn 0 b (k, d, Z) rfl rfl))

theorem setS_fired {b : Nat} : ∀ (fs : List (Nat × Tmp × Obj)) (os : List (Option Nat)) (l : Array Bool) (j : Nat) (f : Nat × Tmp × Obj), fs[j]? = some f → os[j]? = some (some b) → (setS fs os l).getD f.1 true = true
  | [], _, _, _, _, h, _ => by simp at h
  | _ :: _, [], _, _, _, _, h => by simp at h
  | (k', d, Z) :: fs, o :: os, l, 0, f, h1, h2 => by
    simp at h1 h2
    subst h1 h2
    simp only [setS, setS_set]
    exact getD_set_true _ _
  | (k', d, Z) :: fs, o :: os, l, j + 1, f, h1, h2 => by
    simp only [List.getElem?_cons_succ] at h1 h2
    cases o with
    | none => simp only [setS]; exact setS_fired fs os l j f h1 h2
    | some c => simp only [setS]; exact setS_fired fs os _ j f h1 h2

theorem fullS_set (k : Nat) : ∀ (fs : List (Nat × Tmp × Obj)) (l : Array Bool), fullS fs (l.setIfInBounds k true) = (fullS fs l).setIfInBounds k true
  | [], _ => rfl
  | (k', d, Z) :: fs, l => by
    show fullS fs ((l.setIfInBounds k true).setIfInBounds k' true) = (fullS fs (l.setIfInBounds k' true)).setIfInBounds k true
    by_cases h : k = k'
    · subst h
      rw [← fullS_set k fs]
    · rw [Array.setIfInBounds_comm _ _ h, fullS_set k fs]

theorem ready_full {j : Nat} : ∀ (fs : List (Nat × Tmp × Obj)) (os : List (Option Nat)) (l : Array Bool), (∀ f ∈ fs, j ≠ f.1) → j ∈ Region.ready md ops (setS fs os l) → j ∈ Region.ready md ops (fullS fs l)
  | [], _, _, _, h => by simpa [setS, fullS] using h
  | (k, d, Z) :: fs, [], l, hn, h => by
    show j ∈ Region.ready md ops (fullS fs (l.setIfInBounds k true))
    rw [fullS_set]
    exact ready_mono (ready_full fs [] l (fun f hf => hn f (List.mem_cons_of_mem _ hf)) (by cases fs <;> simpa [setS] using h)) (hn _ (List.mem_cons_self ..))
  | (k, d, Z) :: fs, none :: os, l, hn, h => by
    show j ∈ Region.ready md ops (fullS fs (l.setIfInBounds k true))
    rw [fullS_set]
    exact ready_mono (ready_full fs os l (fun f hf => hn f (List.mem_cons_of_mem _ hf)) h) (hn _ (List.mem_cons_self ..))
  | (k, d, Z) :: fs, some b :: os, l, hn, h => ready_full fs os _ (fun f hf => hn f (List.mem_cons_of_mem _ hf)) h

theorem setS_all : ∀ (fs : List (Nat × Tmp × Obj)) (bs : List Nat) (l : Array Bool), bs.length = fs.length → setS fs (bs.map some) l = fullS fs l
  | [], [], _, _ => rfl
  | [], b :: bs, _, h => by simp at h
  | f :: fs, [], _, h => by simp at h
  | (k, d, Z) :: fs, b :: bs, l, h => by
    show setS fs (bs.map some) (l.setIfInBounds k true) = fullS fs (l.setIfInBounds k true)
    exact setS_all fs bs _ (by simpa using h)

/-- the slots of the variables are apart from the operation -/
def apartS (ops : Array Oper) (fs : List (Nat × Tmp × Obj)) (o : Oper) : Bool :=
  fs.all fun f => match ops[f.1]? with | some ok => decide (ok.dst = some f.2.1) && ok.apart ops o | none => false

theorem apartS_out {fs : List (Nat × Tmp × Obj)} {o : Oper} (h : apartS ops fs o = true) : ∀ f ∈ fs, f.2.1 ∉ o.looksAt ops ∧ o.dst ≠ some f.2.1 := fun f hf => by
  have := List.all_eq_true.1 h f hf
  cases hk : ops[f.1]? with
  | none => simp [hk] at this
  | some ok =>
    simp only [hk, Bool.and_eq_true, decide_eq_true_eq] at this
    exact apart_out this.1 this.2

theorem execOp_putS (o : Oper) (hsel : ∀ cs b, o.op ≠ .select cs b) : ∀ (fs : List (Nat × Tmp × Obj)) (os : List (Option Nat)) (a : Act), (∀ f ∈ fs, f.2.1 ∉ o.looksAt ops) →
    execOp (putS fs os a).eval o = execOp a.eval o ∧ Region.wanted o (yielded ops (putS fs os a).tmps) = Region.wanted o (yielded ops a.tmps)
  | [], _, _, _ => by simp [putS]
  | _ :: _, [], _, _ => by simp [putS]
  | (k', d, Z) :: fs, none :: os, a, h => by simp only [putS]; exact execOp_putS o hsel fs os a (fun f hf => h f (List.mem_cons_of_mem _ hf))
  | (k', d, Z) :: fs, some b :: os, a, h => by
    simp only [putS]
    obtain ⟨h1, h2⟩ := execOp_putS o hsel fs os (a.put (some d) (.pointer (some ⟨b, 0, none⟩))) (fun f hf => h f (List.mem_cons_of_mem _ hf))
    have hd := h _ (List.mem_cons_self ..)
    exact ⟨h1.trans (execOp_put o hsel a (some d) _ (fun e he => by cases he; exact hd)), h2.trans (wanted_put o a (some d) _ (fun e he => by cases he; exact hd))⟩

theorem wpOp_putS {j : Nat} {oj : Oper} (hj : ops[j]? = some oj) (hsj : ∀ cs b, oj.op ≠ .select cs b) (hQ : ∀ c a d u w, Q (.panic c) a w → Q (.panic c) (a.put (some d) u) w) :
    ∀ (fs : List (Nat × Tmp × Obj)) (os : List (Option Nat)) {K K' : Act → World → Prop} {a : Act} {w : World}, (∀ f ∈ fs, f.2.1 ∉ oj.looksAt ops ∧ oj.dst ≠ some f.2.1) →
    (∀ a' w', K a' w' → K' (putS fs os a') w') → wpOp P ops Q j K a w → wpOp P ops Q j K' (putS fs os a) w
  | [], _, _, _, _, _, _, hK, h => by simp only [putS] at *; exact wpOp_mono hK h
  | _ :: _, [], _, _, _, _, _, hK, h => by simp only [putS] at *; exact wpOp_mono hK h
  | (k', d, Z) :: fs, none :: os, _, _, _, _, hap, hK, h => by
    simp only [putS] at *
    exact wpOp_putS hj hsj hQ fs os (fun f hf => hap f (List.mem_cons_of_mem _ hf)) hK h
  | (k', d, Z) :: fs, some b :: os, K, K', a, w, hap, hK, h => by
    simp only [putS] at *
    obtain ⟨p1, p2⟩ := hap _ (List.mem_cons_self ..)
    refine wpOp_putS (K := fun a' w' => ∃ a'', a' = a''.put (some d) (.pointer (some ⟨b, 0, none⟩)) ∧ K a'' w') hj hsj hQ fs os (fun f hf => hap f (List.mem_cons_of_mem _ hf)) (fun a' w' ⟨a'', e, h'⟩ => by subst e; exact hK a'' w' h') ?_
    exact wpOp_put hj p1 p2 hsj (fun c a w => hQ c a d _ w) (fun a' w' h' => ⟨a', rfl, h'⟩) h

/-- j waits for i at first hand -/
def directB (md : Region.Mode) (ops : Array Oper) (j i : Nat) : Bool := match ops[j]? with | some o => o.after.any fun e => Region.binds md e && e.on == i | none => false
/-- .. at first or second hand -/
def reachB (md : Region.Mode) (ops : Array Oper) (j i : Nat) : Bool :=
  directB md ops j i || (match ops[j]? with | some o => o.after.any fun e => Region.binds md e && directB md ops e.on i | none => false)
/-- each of the last operations waits for each of the first that is not listed in pu (those read nothing) -/
def sinkP (md : Region.Mode) (ops : Array Oper) (n : Nat) (pu : List Nat) : Bool :=
  (List.range ops.size).all fun j => decide (j < n) || ((List.range n).all fun i => pu.contains i || reachB md ops j i)

theorem direct_listed {i j : Nat} {listed : Array Bool} (h : directB md ops j i = true) (hl : ∀ oj, ops[j]? = some oj → ∀ e ∈ oj.after, Region.binds md e = true → listed.getD e.on false = true) : listed.getD i false = true := by
  unfold directB at h
  cases ho : ops[j]? with
  | none => simp [ho] at h
  | some o =>
    rw [ho] at h
    obtain ⟨e, he, h3⟩ := Array.any_eq_true'.1 h
    simp only [Bool.and_eq_true, beq_iff_eq] at h3
    have h4 := hl o ho e he h3.1
    rwa [h3.2] at h4

theorem tail_waitsP {n i : Nat} {pu : List Nat} (hs : sinkP md ops n pu = true) (hin : i < n) (hp : pu.contains i = false) {listed : Array Bool} (inv : HeadInv md ops ops.size listed) (hun : listed.getD i true = false) (j : Nat) (hj : n ≤ j) : j ∉ Region.ready md ops listed := fun hr => by
  obtain ⟨_, oj, hoj, hall⟩ := mem_ready.1 hr
  have hlt : j < ops.size := (Array.getElem?_eq_some_iff.1 hoj).1
  have h1 := List.all_eq_true.1 hs j (List.mem_range.2 hlt)
  simp only [Bool.or_eq_true, decide_eq_true_eq] at h1
  rcases h1 with h1 | h1
  · omega
  have h2 := List.all_eq_true.1 h1 i (List.mem_range.2 hin)
  rw [hp, Bool.false_or] at h2
  unfold reachB at h2
  have hl : ∀ o, ops[j]? = some o → ∀ e ∈ o.after, Region.binds md e = true → listed.getD e.on false = true := fun o ho e he hb => by
    rw [hoj] at ho; cases ho; exact hall e he hb
  have hli : listed.getD i false = true := by
    rcases Bool.or_eq_true _ _ ▸ h2 with h2 | h2
    · exact direct_listed h2 hl
    · rw [hoj] at h2
      obtain ⟨e, he, h3⟩ := Array.any_eq_true'.1 h2
      simp only [Bool.and_eq_true] at h3
      exact direct_listed h3.2 (fun o ho => inv.closed e.on o ho (hall e he h3.1))
  rw [getD_both hun] at hli
  cases hli

theorem YieldsIf.stayP {pure : Bool} {o : Oper} {v : Value} {a : Act} {w w' : World} (h : YieldsIf P ops (fun x => pure = true ∨ Below w.heap.size w x) o v a) (hb : pure = true ∨ Below w.heap.size w w') :
    YieldsIf P ops (fun x => pure = true ∨ Below w'.heap.size w' x) o v a :=
  h.imp (fun ⟨h1, h2⟩ => ⟨h1, fun x hx => h2 x (by
    rcases hb with hb | hb
    · exact Or.inl hb
    · rcases hx with hx | hx
      · exact Or.inl hx
      · exact Or.inr (hb.trans (hx.mono hb.size)))⟩) id

theorem wpR_firstP {n i : Nat} {oi : Oper} {v : Value} {pure : Bool} (hi : ops[i]? = some oi) (hsel : ∀ (j : Nat) (o : Oper) cs b, ops[j]? = some o → o.op ≠ .select cs b)
    (hwait : pure = false → ∀ listed : Array Bool, HeadInv md ops ops.size listed → listed.getD i true = false → ∀ j, n ≤ j → j ∉ Region.ready md ops listed)
    (hQ : ∀ c a w, Q (.panic c) (a.put oi.dst v) w → Q (.panic c) a w) :
    ∀ (fuel : Nat) (listed : Array Bool) (a : Act) (w : World), HeadInv md ops ops.size listed →
      (∀ j oj, ops[j]? = some oj → j ≠ i → listed.getD j true = false → (∀ e ∈ oj.after, Region.binds md e = true → e.on ≠ i) → oi.apart ops oj = true) →
      i ∈ Region.ready md ops listed → YieldsIf P ops (fun x => pure = true ∨ Below w.heap.size w x) oi v a →
      wpR P md ops Q n fuel (listed.setIfInBounds i true) (a.put oi.dst v) w → wpR P md ops Q n (fuel + 1) listed a w := by
  intro fuel
  induction fuel with
  | zero =>
    intro listed a w _ _ hr hy H
    refine ⟨fun h => (by rw [h] at hr; cases hr), fun j hj => ?_⟩
    by_cases hji : j = i
    · subst hji; exact hy.wpOp hi (Or.inr (Below.refl _ _)) ⟨fun _ => Below.refl _ _, H⟩
    · have := ready_mono hj hji
      rw [H.1] at this
      cases this
  | succ fuel ih =>
    intro listed a w inv hfree hr hy H
    have hun := (mem_ready.1 hr).1
    refine ⟨fun h => (by rw [h] at hr; cases hr), fun j hj => ?_⟩
    by_cases hji : j = i
    · subst hji; exact hy.wpOp hi (Or.inr (Below.refl _ _)) ⟨fun _ => Below.refl _ _, H⟩
    · have h1 := H.2 j (ready_mono hj hji)
      obtain ⟨hjun, oj, hoj, hall⟩ := mem_ready.1 hj
      have hnot : ∀ e ∈ oj.after, Region.binds md e = true → e.on ≠ i := fun e he hb heq => by
        have h1 := hall e he hb
        rw [heq, getD_both hun] at h1
        cases h1
      have h2 := wpOp_putIf hoj (hfree j oj hoj hji hjun hnot) (fun cs b => hsel i oi cs b hi) (fun cs b => hsel j oj cs b hoj) hQ hy h1
      have hfree' : ∀ k ok, ops[k]? = some ok → k ≠ i → (listed.setIfInBounds j true).getD k true = false →
          (∀ e ∈ ok.after, Region.binds md e = true → e.on ≠ i) → oi.apart ops ok = true := fun k ok hk hki hun hno => by
        refine hfree k ok hk hki ?_ hno
        by_cases hjk : j = k
        · subst hjk; exact hjun
        · rw [getD_set_ne true hjk] at hun; exact hun
      have hstay : ∀ w', (j < n → Below w.heap.size w w') → (pure = true ∨ Below w.heap.size w w') := fun w' hw => by
        cases hpu : pure with
        | true => exact Or.inl rfl
        | false =>
          refine Or.inr (hw ?_)
          rcases Nat.lt_or_ge j n with h | h
          · exact h
          · exact absurd hj (hwait hpu listed inv hun j h)
      refine wpOp_mono (fun a' w' h3 => ⟨h3.2.1, ih (listed.setIfInBounds j true) a' w' (inv.set hj (Array.getElem?_eq_some_iff.1 hoj).1) hfree' (ready_mono hr (Ne.symm hji)) (YieldsIf.stayP h3.1 (hstay w' h3.2.1)) ?_⟩) h2
      rw [Array.setIfInBounds_comm _ _ hji]
      exact h3.2.2

/-- the walk in the chosen order, the variables left aside; C: what is known of the variables' blocks -/
def wpG (P : Program) (ops : Array Oper) (Q : Exit → Act → World → Prop) (n : Nat) (pu : List Nat) (fs : List (Nat × Tmp × Obj)) : (Nat → Prop) → List (Nat × Bool) → Act → World → Prop
  | C, [], a, w => ∀ (bs : List Nat) w', bs.length = fs.length → (∀ (j b : Nat) (f : Nat × Tmp × Obj), bs[j]? = some b → fs[j]? = some f → C b ∧ w'.heap[b]? = some f.2.2) → (∀ (i j b : Nat), bs[i]? = some b → bs[j]? = some b → i = j) → Below w.heap.size w w' →
      wpList P ops Q (ops.toList.drop n) (putS fs (bs.map some) a) w'
  | C, (i, true) :: rest, a, w => ∃ o v, ops[i]? = some o ∧ YieldsIf P ops (fun x => pu.contains i = true ∨ Below w.heap.size w x) o v a ∧ wpG P ops Q n pu fs C rest (a.put o.dst v) w
  | C, (i, false) :: rest, a, w => ∀ x, Below w.heap.size w x → wpOp P ops Q i (fun a' w' => Below x.heap.size x w' ∧ wpG P ops Q n pu fs (fun b => C b ∧ (b < x.heap.size ∨ w'.heap.size ≤ b)) rest a' w') a x

/-- the order serves, the variables wherever they come up -/
def ordGB (md : Region.Mode) (ops : Array Oper) (n : Nat) (fs : List (Nat × Tmp × Obj)) : List (Nat × Bool) → Array Bool → Bool
  | [], listed => Region.seqB md ops (ops.size - n) n (fullS fs listed)
  | (i, t) :: rest, listed =>
    (Region.ready md ops listed).contains i && (if t then Region.free md ops listed i else decide (Region.ready md ops (fullS fs listed) = [i])) &&
    decide (i < n) && (fs.all fun f => decide (i ≠ f.1)) && (match ops[i]? with | some o => apartS ops fs o | none => false) && ordGB md ops n fs rest (listed.setIfInBounds i true)

/-- what holds of the variables that are made -/
def HeldS (C : Nat → Prop) (x : World) (fs : List (Nat × Tmp × Obj)) (os : List (Option Nat)) : Prop :=
  os.length = fs.length ∧ (∀ (j b : Nat) (f : Nat × Tmp × Obj), os[j]? = some (some b) → fs[j]? = some f → C b ∧ x.heap[b]? = some f.2.2) ∧ (∀ (i j b : Nat), os[i]? = some (some b) → os[j]? = some (some b) → i = j)

theorem free_S {i : Nat} {oi : Oper} {listed : Array Bool} (h : ∀ j oj, ops[j]? = some oj → j ≠ i → listed.getD j true = false → (∀ e ∈ oj.after, Region.binds md e = true → e.on ≠ i) → oi.apart ops oj = true) :
    ∀ (fs : List (Nat × Tmp × Obj)) (os : List (Option Nat)), ∀ j oj, ops[j]? = some oj → j ≠ i → (setS fs os listed).getD j true = false → (∀ e ∈ oj.after, Region.binds md e = true → e.on ≠ i) → oi.apart ops oj = true
  | [], _ => by simpa [setS] using h
  | _ :: _, [] => by simpa [setS] using h
  | (k, d, Z) :: fs, none :: os => by simp only [setS]; exact free_S h fs os
  | (k, d, Z) :: fs, some b :: os => fun j oj hj hji hu he => by
    simp only [setS, setS_set] at hu
    refine free_S h fs os j oj hj hji ?_ he
    by_cases hjk : k = j
    · subst hjk; rw [getD_set_true] at hu; cases hu
    · rwa [getD_set_ne true hjk] at hu

/-- how many are not made yet -/
def pendS (os : List (Option Nat)) : Nat := os.countP fun o => o.isNone

theorem pendS_fire {b : Nat} : ∀ (os : List (Option Nat)) (j : Nat), os[j]? = some none → pendS (os.set j (some b)) + 1 = pendS os
  | [], _, h => by simp at h
  | o :: os, 0, h => by
    simp at h; subst h
    simp [pendS]
  | o :: os, j + 1, h => by
    have := pendS_fire (b := b) os j (by simpa using h)
    unfold pendS at *
    rw [List.set_cons_succ, List.countP_cons, List.countP_cons]
    omega

theorem pendS_zero : ∀ (os : List (Option Nat)), pendS os = 0 → ∃ bs : List Nat, os = bs.map some
  | [], _ => ⟨[], rfl⟩
  | none :: os, h => by simp [pendS] at h
  | some b :: os, h => by
    obtain ⟨bs, e⟩ := pendS_zero os (by simpa [pendS] using h)
    exact ⟨b :: bs, by rw [e]; rfl⟩

theorem pendS_pos : ∀ (os : List (Option Nat)), pendS os ≠ 0 → ∃ j : Nat, os[j]? = some none
  | [], h => by simp [pendS] at h
  | none :: os, h => ⟨0, rfl⟩
  | some b :: os, h => by
    obtain ⟨j, e⟩ := pendS_pos os (by simpa [pendS] using h)
    exact ⟨j + 1, by simpa using e⟩

/-- what is given of the variables -/
def MadeS (P : Program) (ops : Array Oper) (n : Nat) (fs : List (Nat × Tmp × Obj)) : Prop :=
  (fs.map fun f => f.2.1).Nodup ∧ (fs.map fun f => f.1).Nodup ∧ ∀ f ∈ fs, f.1 < n ∧ ∃ ok, ops[f.1]? = some ok ∧ ok.dst = some f.2.1 ∧ ok.guard = none ∧ ∀ (a : Act) (w : World), (execOp a.eval ok).run P w = .ok (.value (.pointer (some ⟨w.heap.size, 0, none⟩))) (w.alloc f.2.2)

theorem nodup_get {fs : List (Nat × Tmp × Obj)} (h : (fs.map fun f => f.1).Nodup) {i j : Nat} {f g : Nat × Tmp × Obj} (hi : fs[i]? = some f) (hj : fs[j]? = some g) (e : f.1 = g.1) : i = j := by
  have h1 : i < (fs.map fun f => f.1).length := by have := (List.getElem?_eq_some_iff.1 hi).1; simpa using this
  have h2 : (fs.map fun f => f.1)[i]? = (fs.map fun f => f.1)[j]? := by
    rw [List.getElem?_map, List.getElem?_map, hi, hj]; simp [e]
  exact (List.getElem?_inj h1 h).1 h2

theorem wpR_of_G {n : Nat} {pu : List Nat} {fs : List (Nat × Tmp × Obj)} (hfs : MadeS P ops n fs) (hfp : ∀ f ∈ fs, pu.contains f.1 = false) (hsel : Region.noSelect ops = true) (hs : sinkP md ops n pu = true) (hn : n ≤ ops.size)
    (hQ : ∀ c a d u w, Q (.panic c) a w → Q (.panic c) (a.put (some d) u) w) (hQ2 : ∀ c a o u w, Q (.panic c) (a.put o u) w → Q (.panic c) a w) :
    ∀ (m : Nat) (ord : List (Nat × Bool)) (C : Nat → Prop) (listed : Array Bool) (os : List (Option Nat)) (a : Act) (w x : World), m = ord.length + pendS os → HeldS C x fs os → (∀ b, x.heap.size ≤ b → C b) → HeadInv md ops ops.size (setS fs os listed) →
      (∀ (j : Nat) (f : Nat × Tmp × Obj), fs[j]? = some f → f.1 ∈ Region.ready md ops listed) → ordGB md ops n fs ord listed = true → wpG P ops Q n pu fs C ord a w →
      Below w.heap.size w x → wpR P md ops Q n (m + (ops.size - n)) (setS fs os listed) (putS fs os a) x := by
  obtain ⟨hnd, hnk, hall⟩ := hfs
  intro m
  induction m with
  | zero =>
    intro ord C listed os a w x hm hheld hfr inv hrd hB h hb
    obtain ⟨bs, rfl⟩ := pendS_zero os (by omega)
    obtain rfl : ord = [] := List.length_eq_zero_iff.1 (by omega)
    have hlen : bs.length = fs.length := by simpa using hheld.1
    rw [setS_all fs bs listed hlen]
    have := wpR_of_seq (md := md) (n := n) (Q' := Q) (ops.toList.drop n) n (fullS fs listed) _ x (Nat.le_refl _) (fun j => by simp [List.getElem?_drop]) (by simpa [ordGB] using hB)
      (h bs x hlen (fun j b f h1 h2 => hheld.2.1 j b f (by simp [h1]) h2) (fun i j b h1 h2 => hheld.2.2 i j b (by simp [h1]) (by simp [h2])) hb)
    simpa using this
  | succ m ih =>
    intro ord C listed os a w x hm hheld hfr inv hrd hB h hb
    -- a variable comes up
    have hfire : ∀ (j : Nat) (f : Nat × Tmp × Obj), fs[j]? = some f → os[j]? = some none →
        wpOp P ops Q f.1 (fun a' w' => (f.1 < n → Below x.heap.size x w') ∧ wpR P md ops Q n (m + (ops.size - n)) ((setS fs os listed).setIfInBounds f.1 true) a' w') (putS fs os a) x := by
      intro j f hj ho
      obtain ⟨hkn, ok, hok, hd, hg, hrun⟩ := hall f (List.mem_of_getElem? hj)
      have hbelow : Below x.heap.size x (x.alloc f.2.2) := (Below.refl _ _).alloc (Nat.le_refl _) _
      have hw : Region.wanted ok (yielded ops (putS fs os a).tmps) = true := by simp [Region.wanted, hg]
      unfold wpOp
      simp only [hok, hw, if_true, Oper.wp, hrun, Oper.upon, hd]
      refine .inl ⟨fun _ => hbelow, ?_⟩
      have hrs : f.1 ∈ Region.ready md ops (setS fs os listed) := ready_S fs os listed (fun i b g h1 h2 e => by
        obtain rfl := nodup_get hnk h1 hj e.symm
        rw [ho] at h2; cases h2) (hrd j f hj)
      have hrec := ih ord C listed (os.set j (some x.heap.size)) a w (x.alloc f.2.2) (by have := pendS_fire (b := x.heap.size) os j ho; omega) ?_ (fun b hb' => hfr b (Nat.le_trans hbelow.size hb')) (by rw [setS_fire fs os listed j f hj ho]; exact inv.set hrs (Array.getElem?_eq_some_iff.1 hok).1) hrd hB h (hb.trans (hbelow.mono hb.size))
      · rwa [setS_fire fs os listed j f hj ho, putS_fire fs os a j f hj ho hnd] at hrec
      · refine ⟨by simpa using hheld.1, fun i b g h1 h2 => ?_, fun i i' b h1 h2 => ?_⟩
        · rw [List.getElem?_set] at h1
          split at h1
          · rename_i e; subst e
            split at h1
            · cases h1
              rw [hj] at h2; cases h2
              exact ⟨hfr _ (Nat.le_refl _), heap_alloc_new _ _⟩
            · cases h1
          · obtain ⟨h3, h4⟩ := hheld.2.1 i b g h1 h2
            exact ⟨h3, (hbelow.block b (lt_of_block h4)).trans h4⟩
        · have hlt : ∀ (i b : Nat), os[i]? = some (some b) → b < x.heap.size := fun i b h3 => by
            have h5 : i < fs.length := by rw [← hheld.1]; exact (List.getElem?_eq_some_iff.1 h3).1
            exact lt_of_block (hheld.2.1 i b fs[i] h3 (List.getElem?_eq_getElem h5)).2
          rw [List.getElem?_set] at h1 h2
          split at h1 <;> split at h2
          · omega
          · split at h1
            · cases h1; have := hlt _ _ h2; omega
            · cases h1
          · split at h2
            · cases h2; have := hlt _ _ h1; omega
            · cases h2
          · exact hheld.2.2 i i' b h1 h2
    -- what comes up is one of the variables, or of the others
    have hcase : ∀ j ∈ Region.ready md ops (setS fs os listed), (∃ (i : Nat) (f : Nat × Tmp × Obj), fs[i]? = some f ∧ os[i]? = some none ∧ j = f.1) ∨ ((∀ f ∈ fs, j ≠ f.1) ∧ j ∈ Region.ready md ops (fullS fs listed)) := by
      intro j hj
      by_cases hk : ∃ f ∈ fs, j = f.1
      · obtain ⟨f, hf, rfl⟩ := hk
        obtain ⟨i, hi⟩ := List.getElem?_of_mem hf
        have hlt : i < os.length := by rw [hheld.1]; exact (List.getElem?_eq_some_iff.1 hi).1
        cases ho : os[i]? with
        | none => rw [List.getElem?_eq_none_iff] at ho; omega
        | some o =>
          cases o with
          | none => exact Or.inl ⟨i, f, hi, ho, rfl⟩
          | some b =>
            have h1 := setS_fired fs os listed i f hi ho
            have h2 := (mem_ready.1 hj).1
            rw [h1] at h2; cases h2
      · have hk' : ∀ f ∈ fs, j ≠ f.1 := fun f hf e => hk ⟨f, hf, e⟩
        exact Or.inr ⟨hk', ready_full fs os listed hk' hj⟩
    have hpend : pendS os ≠ 0 → ∃ (i : Nat) (f : Nat × Tmp × Obj), fs[i]? = some f ∧ os[i]? = some none ∧ f.1 ∈ Region.ready md ops (setS fs os listed) := fun hp => by
      obtain ⟨i, ho⟩ := pendS_pos os hp
      have hlt : i < fs.length := by rw [← hheld.1]; exact (List.getElem?_eq_some_iff.1 ho).1
      refine ⟨i, fs[i], List.getElem?_eq_getElem hlt, ho, ready_S fs os listed (fun i' b g h1 h2 e => ?_) (hrd i _ (List.getElem?_eq_getElem hlt))⟩
      obtain rfl := nodup_get hnk h1 (List.getElem?_eq_getElem hlt) e.symm
      rw [ho] at h2; cases h2
    cases ord with
    | nil =>
      have hp : pendS os ≠ 0 := by simp at hm; omega
      obtain ⟨i0, f0, hf0, ho0, hr0⟩ := hpend hp
      have hB' := hB
      rw [show m + 1 + (ops.size - n) = m + (ops.size - n) + 1 by omega]
      refine ⟨fun h0 => (by rw [h0] at hr0; cases hr0), fun j hj => ?_⟩
      rcases hcase j hj with ⟨i, f, hi, ho, rfl⟩ | ⟨_, hj2⟩
      · exact hfire i f hi ho
      · rcases Nat.lt_or_ge n ops.size with hlt | hge
        · obtain ⟨k0, hk0⟩ : ∃ k0, ops.size - n = k0 + 1 := ⟨ops.size - n - 1, by omega⟩
          simp only [ordGB, hk0, Region.seqB, Bool.and_eq_true, decide_eq_true_eq] at hB'
          rw [hB'.1] at hj2
          obtain rfl : j = n := by simpa using hj2
          exact absurd hj (tail_waitsP hs (hall f0 (List.mem_of_getElem? hf0)).1 (hfp f0 (List.mem_of_getElem? hf0)) inv (mem_ready.1 hr0).1 j (Nat.le_refl _))
        · simp only [ordGB, show ops.size - n = 0 by omega, Region.seqB] at hB'
          rw [List.isEmpty_iff.1 hB'] at hj2; cases hj2
    | cons p rest =>
      obtain ⟨i, t⟩ := p
      have hB' := hB
      cases ho : ops[i]? with
      | none => simp [ordGB, ho] at hB
      | some o =>
      simp only [ordGB, Bool.and_eq_true, decide_eq_true_eq, ho] at hB'
      obtain ⟨⟨⟨⟨⟨h1, h2⟩, h3⟩, h4⟩, h5⟩, h7⟩ := hB'
      have h1 : i ∈ Region.ready md ops listed := by simpa using h1
      have h4 : ∀ f ∈ fs, i ≠ f.1 := fun f hf => by simpa using List.all_eq_true.1 h4 f hf
      have hap := apartS_out h5
      have hr' : i ∈ Region.ready md ops (setS fs os listed) := ready_S fs os listed (fun _ _ f hf _ => h4 f (List.mem_of_getElem? hf)) h1
      have hrd' : ∀ (j : Nat) (f : Nat × Tmp × Obj), fs[j]? = some f → f.1 ∈ Region.ready md ops (listed.setIfInBounds i true) := fun j f hj => ready_mono (hrd j f hj) (Ne.symm (h4 f (List.mem_of_getElem? hj)))
      rw [show m + 1 + (ops.size - n) = m + (ops.size - n) + 1 by omega]
      cases t with
      | true =>
        obtain ⟨o', v, ho', hy, h⟩ := h
        obtain rfl : o = o' := by rw [ho] at ho'; cases ho'; rfl
        simp only [if_true] at h2
        obtain ⟨e1, e2⟩ := execOp_putS (ops := ops) o (fun cs e => Region.noSelect_spec hsel i o cs e ho) fs os a (fun f hf => (hap f hf).1)
        have hy' : YieldsIf P ops (fun y => pu.contains i = true ∨ Below x.heap.size x y) o v (putS fs os a) := (YieldsIf.stayP hy (Or.inr hb)).of_same e1 e2
        have hrec := ih rest C (listed.setIfInBounds i true) os (a.put o.dst v) w x (by simp at hm; omega) hheld hfr (by rw [setS_set]; exact inv.set hr' (Array.getElem?_eq_some_iff.1 ho).1) hrd' h7 h hb
        rw [setS_set, putS_put fs os a (fun f hf => (hap f hf).2)] at hrec
        exact wpR_firstP ho (Region.noSelect_spec hsel) (fun hpu l hl hun j hj => tail_waitsP hs h3 hpu hl hun j hj) (fun c a w => hQ2 c a o.dst v w) _ _ _ x inv (free_S (Region.free_spec ho h2) fs os) hr' hy' hrec
      | false =>
        simp only [Bool.false_eq_true, if_false, decide_eq_true_eq] at h2
        refine ⟨fun h0 => (by rw [h0] at hr'; cases hr'), fun j hj => ?_⟩
        rcases hcase j hj with ⟨i', f, hi, ho', rfl⟩ | ⟨_, hj2⟩
        · exact hfire i' f hi ho'
        · rw [h2] at hj2
          obtain rfl : j = i := by simpa using hj2
          refine wpOp_putS ho (fun cs e => Region.noSelect_spec hsel j o cs e ho) hQ fs os hap (fun a' w' h' => ?_) (h x hb)
          refine ⟨fun _ => h'.1, ?_⟩
          have hrec := ih rest _ (listed.setIfInBounds j true) os a' w' w' (by simp at hm; omega) ⟨hheld.1, fun k b f hk hf => ?_, hheld.2.2⟩ (fun b hb' => ⟨hfr b (Nat.le_trans h'.1.size hb'), Or.inr hb'⟩) (by rw [setS_set]; exact inv.set hr' (Array.getElem?_eq_some_iff.1 ho).1) hrd' h7 h'.2 (Below.refl _ _)
          · rw [setS_set] at hrec; exact hrec
          · obtain ⟨h8, h9⟩ := hheld.2.1 k b f hk hf
            have hlt := lt_of_block h9
            exact ⟨⟨h8, Or.inl hlt⟩, (h'.1.block b hlt).trans h9⟩

/-- a closed fact -/
def floatsB (md : Region.Mode) (ops : Array Oper) (n : Nat) (pu : List Nat) (fs : List (Nat × Tmp × Obj)) (ord : List (Nat × Bool)) : Bool :=
  Region.noSelect ops && decide (n ≤ ops.size) && decide (ord.length + fs.length = n) && sinkP md ops n pu && (fs.all fun f => (Region.ready md ops (Array.replicate ops.size false)).contains f.1 && !pu.contains f.1) && ordGB md ops n fs ord (Array.replicate ops.size false)

theorem setS_none : ∀ (fs : List (Nat × Tmp × Obj)) (l : Array Bool), setS fs (fs.map fun _ => none) l = l
  | [], _ => rfl
  | _ :: fs, l => setS_none fs l
theorem putS_none : ∀ (fs : List (Nat × Tmp × Obj)) (a : Act), putS fs (fs.map fun _ => none) a = a
  | [], _ => rfl
  | _ :: fs, a => putS_none fs a
theorem pendS_none : ∀ (fs : List (Nat × Tmp × Obj)), pendS (fs.map fun _ => none) = fs.length
  | [] => rfl
  | f :: fs => by
    have := pendS_none fs
    unfold pendS at *
    rw [List.map_cons, List.countP_cons, this]
    rfl

/-- THE BEGINNING -/
theorem wp_region_floats {id : Nat} {a : Act} {w : World} (n : Nat) (pu : List Nat) (fs : List (Nat × Tmp × Obj)) (ord : List (Nat × Bool))
    (hm : P.follows .mixedOrders = true) (hB : floatsB .any ops n pu fs ord = true) (hfs : MadeS P ops n fs)
    (hQ : ∀ c a d u w, Q (.panic c) a w → Q (.panic c) (a.put (some d) u) w) (hQ2 : ∀ c a o u w, Q (.panic c) (a.put o u) w → Q (.panic c) a w)
    (h : wpG P ops Q n pu fs (fun b => w.heap.size ≤ b) ord a w.drew) : (Code.region id ops true).wp P Q a w := by
  simp only [floatsB, Bool.and_eq_true, decide_eq_true_eq] at hB
  obtain ⟨⟨⟨⟨⟨hsel, hn⟩, hl⟩, hs⟩, hr⟩, ho⟩ := hB
  have hr' : ∀ f ∈ fs, f.1 ∈ Region.ready .any ops (Array.replicate ops.size false) ∧ pu.contains f.1 = false := fun f hf => by
    have := List.all_eq_true.1 hr f hf
    simp only [Bool.and_eq_true, Bool.not_eq_true'] at this
    exact ⟨by simpa using this.1, this.2⟩
  have := wpR_of_G (P := P) (Q := Q) (md := .any) hfs (fun f hf => (hr' f hf).2) hsel hs hn hQ hQ2 (ord.length + fs.length) ord _ (Array.replicate ops.size false) (fs.map fun _ => none) a w.drew w.drew (by rw [pendS_none])
    ⟨by simp, fun j b f h1 _ => by rw [List.getElem?_map] at h1; cases hx : fs[j]? <;> simp [hx] at h1, fun i j b h1 _ => by rw [List.getElem?_map] at h1; cases hx : fs[i]? <;> simp [hx] at h1⟩
    (fun b hb => hb) (by rw [setS_none]; exact ⟨by simp, fun j oj _ hl => (by rw [getD_replicate_false] at hl; cases hl), fun t h1 h2 => absurd h2 (by omega)⟩) (fun j f hj => (hr' f (List.mem_of_getElem? hj)).1) ho h (Below.refl _ _)
  rw [setS_none, putS_none, hl, show n + (ops.size - n) = ops.size by omega] at this
  exact wp_region_any hm (wpAny_of_R _ _ _ _ this)

/-- an operation that merely reads -/
theorem wpG_yield {n i : Nat} {pu : List Nat} {fs : List (Nat × Tmp × Obj)} {C : Nat → Prop} {rest : List (Nat × Bool)} {o : Oper} {v : Value} {a : Act} {w : World} (hi : ops.toList[i]? = some o) (hpu : pu.contains i = false)
    (hw : Region.wanted o (yielded ops a.tmps) = true) (hy : ∀ x, Below w.heap.size w x → (execOp a.eval o).run P x = .ok (.value v) x)
    (h : wpG P ops Q n pu fs C rest (a.put o.dst v) w) : wpG P ops Q n pu fs C ((i, true) :: rest) a w :=
  ⟨o, v, by rw [← Array.getElem?_toList]; exact hi, Or.inl ⟨hw, fun x hx => hy x (hx.resolve_left (by rw [hpu]; decide))⟩, h⟩

/-- an operation that reads nothing -/
theorem wpG_pure {n i : Nat} {pu : List Nat} {fs : List (Nat × Tmp × Obj)} {C : Nat → Prop} {rest : List (Nat × Bool)} {o : Oper} {v : Value} {a : Act} {w : World} (hi : ops.toList[i]? = some o)
    (hw : Region.wanted o (yielded ops a.tmps) = true) (hy : ∀ x, (execOp a.eval o).run P x = .ok (.value v) x)
    (h : wpG P ops Q n pu fs C rest (a.put o.dst v) w) : wpG P ops Q n pu fs C ((i, true) :: rest) a w :=
  ⟨o, v, by rw [← Array.getElem?_toList]; exact hi, Or.inl ⟨hw, fun x _ => hy x⟩, h⟩

theorem wpG_skip {n i : Nat} {pu : List Nat} {fs : List (Nat × Tmp × Obj)} {C : Nat → Prop} {rest : List (Nat × Bool)} {o : Oper} {a : Act} {w : World} (hi : ops.toList[i]? = some o)
    (hw : Region.wanted o (yielded ops a.tmps) = false)
    (h : wpG P ops Q n pu fs C rest (a.put o.dst undef) w) : wpG P ops Q n pu fs C ((i, true) :: rest) a w :=
  ⟨o, undef, by rw [← Array.getElem?_toList]; exact hi, Or.inr ⟨hw, rfl⟩, h⟩

theorem wpG_step {n i : Nat} {pu : List Nat} {fs : List (Nat × Tmp × Obj)} {C : Nat → Prop} {rest : List (Nat × Bool)} {o : Oper} {a : Act} {w : World} (hi : ops.toList[i]? = some o) (hg : o.guard = none)
    (h : ∀ x, Below w.heap.size w x → ∀ K : Act → World → Prop, (∀ a' w', Below x.heap.size x w' → wpG P ops Q n pu fs (fun b => C b ∧ (b < x.heap.size ∨ w'.heap.size ≤ b)) rest a' w' → K a' w') → o.wp P a x K Q) :
    wpG P ops Q n pu fs C ((i, false) :: rest) a w := by
  have hw : Region.wanted o (yielded ops a.tmps) = true := by simp [Region.wanted, hg]
  rw [Array.getElem?_toList] at hi
  intro x hx
  unfold wpOp
  simp only [hi, hw, if_true]
  exact .inl (h x hx _ fun a' w' h1 h2 => ⟨h1, h2⟩)

/-- a call whose guard holds -/
theorem wpG_stepw {n i : Nat} {pu : List Nat} {fs : List (Nat × Tmp × Obj)} {C : Nat → Prop} {rest : List (Nat × Bool)} {o : Oper} {a : Act} {w : World} (hi : ops.toList[i]? = some o) (hw : Region.wanted o (yielded ops a.tmps) = true)
    (h : ∀ x, Below w.heap.size w x → ∀ K : Act → World → Prop, (∀ a' w', Below x.heap.size x w' → wpG P ops Q n pu fs (fun b => C b ∧ (b < x.heap.size ∨ w'.heap.size ≤ b)) rest a' w' → K a' w') → o.wp P a x K Q) :
    wpG P ops Q n pu fs C ((i, false) :: rest) a w := by
  rw [Array.getElem?_toList] at hi
  intro x hx
  unfold wpOp
  simp only [hi, hw, if_true]
  exact .inl (h x hx _ fun a' w' h1 h2 => ⟨h1, h2⟩)

theorem wpG_nil0 {n : Nat} {pu : List Nat} {C : Nat → Prop} {a : Act} {w : World} {l : List Oper} (hl : ops.toList.drop n = l) (h : ∀ w', Below w.heap.size w w' → wpList P ops Q l a w') : wpG P ops Q n pu [] C [] a w := by
  subst hl
  intro bs w' hlen _ _ hb
  obtain rfl : bs = [] := List.length_eq_zero_iff.1 hlen
  exact h w' hb

theorem wpG_nil1 {n k1 : Nat} {pu : List Nat} {d1 : Tmp} {Z1 : Obj} {C : Nat → Prop} {a : Act} {w : World} {l : List Oper} (hl : ops.toList.drop n = l)
    (h : ∀ b1 w', C b1 → Below w.heap.size w w' → w'.heap[b1]? = some Z1 → wpList P ops Q l (a.put (some d1) (.pointer (some ⟨b1, 0, none⟩))) w') :
    wpG P ops Q n pu [(k1, d1, Z1)] C [] a w := by
  subst hl
  intro bs w' hlen h1 h2 hb
  match bs, hlen with
  | [b1], _ =>
    obtain ⟨c1, e1⟩ := h1 0 b1 _ rfl rfl
    exact h b1 w' c1 hb e1

end
end Go.Proofs.YtgohdcccfkjooaaGreatDoor
