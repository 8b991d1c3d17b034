/-
  DERIVED. Plain numbers: lists of digits to the base 10^9 (the least significant one first), their values, and the digits of a number. No program in sight.
-/
import Derived.WalkKit
namespace Go.Proofs.Ytkfkdkoohnfgaaa

/-- the base, behind a name -/
def BB : Int := 1000000000

theorem BB_eq : BB = 1000000000 := rfl
theorem BB_pos : (0 : Int) < BB := by rw [BB_eq]; omega

/-- the value of a list of digits -/
def val : List Int → Int
  | [] => 0
  | d :: l => d + 1000000000 * val l

/-- each one is a digit -/
def Dig (l : List Int) : Prop := ∀ j, j < l.length → 0 ≤ l.getD j 0 ∧ l.getD j 0 < 1000000000

theorem Dig.nil : Dig [] := fun j h => by simp at h
theorem Dig.head {d : Int} {l : List Int} (h : Dig (d :: l)) : 0 ≤ d ∧ d < 1000000000 := by simpa using h 0 (by simp)
theorem Dig.tail {d : Int} {l : List Int} (h : Dig (d :: l)) : Dig l := fun j hj => by simpa using h (j + 1) (by simpa using hj)
theorem Dig.cons {d : Int} {l : List Int} (hd : 0 ≤ d ∧ d < 1000000000) (h : Dig l) : Dig (d :: l) := fun j hj => by
  cases j with
  | zero => simpa using hd
  | succ j => simpa using h j (by simpa using hj)
theorem Dig.all {l : List Int} (h : Dig l) (j : Nat) : 0 ≤ l.getD j 0 ∧ l.getD j 0 < 1000000000 := by
  by_cases hj : j < l.length
  · exact h j hj
  · rw [List.getD_eq_getElem?_getD, List.getElem?_eq_none (by omega)]; simp
theorem Dig.append {l m : List Int} (hl : Dig l) (hm : Dig m) : Dig (l ++ m) := fun j _ => by
  by_cases hj : j < l.length
  · rw [List.getD_eq_getElem?_getD, List.getElem?_append_left hj, ← List.getD_eq_getElem?_getD]; exact hl j hj
  · rw [List.getD_eq_getElem?_getD, List.getElem?_append_right (by omega), ← List.getD_eq_getElem?_getD]; exact hm.all _
theorem Dig.take {l : List Int} (h : Dig l) (k : Nat) : Dig (l.take k) := fun j hj => by
  have hj2 : j < k := by have := List.length_take_le k l; omega
  have e : (l.take k).getD j 0 = l.getD j 0 := by simp [List.getD_eq_getElem?_getD, hj2]
  rw [e]; exact h.all j
theorem Dig.drop {l : List Int} (h : Dig l) (k : Nat) : Dig (l.drop k) := fun j _ => by
  have e : (l.drop k).getD j 0 = l.getD (k + j) 0 := by simp [List.getD_eq_getElem?_getD, List.getElem?_drop]
  rw [e]; exact h.all _

theorem val_nonneg {l : List Int} (h : Dig l) : 0 ≤ val l := by
  induction l with
  | nil => simp [val]
  | cons d l ih => have := h.head; have := ih h.tail; simp only [val]; omega

theorem val_append (l m : List Int) : val (l ++ m) = val l + 1000000000 ^ l.length * val m := by
  induction l with
  | nil => simp [val]
  | cons d l ih => simp only [List.cons_append, val, ih, List.length_cons, Int.pow_succ, Int.mul_add]; rw [Int.mul_comm (1000000000 ^ l.length) 1000000000, Int.mul_assoc]; omega

theorem val_lt {l : List Int} (h : Dig l) : val l < 1000000000 ^ l.length := by
  induction l with
  | nil => simp [val]
  | cons d l ih => have := h.head; have := ih h.tail; simp only [val, List.length_cons, Int.pow_succ]; omega

theorem val_replicate (n : Nat) : val (List.replicate n 0) = 0 := by
  induction n with
  | zero => rfl
  | succ n ih => simp only [List.replicate_succ, val, ih]; omega

theorem val_set {l : List Int} {i : Nat} (h : i < l.length) (v : Int) : val (l.set i v) = val l + (v - l.getD i 0) * 1000000000 ^ i := by
  induction l generalizing i with
  | nil => simp at h
  | cons d l ih =>
    cases i with
    | zero => simp only [List.set_cons_zero, val, List.getD_cons_zero, Int.pow_zero]; omega
    | succ i =>
      simp only [List.set_cons_succ, val, List.getD_cons_succ, ih (by simpa using h), Int.pow_succ]
      rw [← Int.mul_assoc, Int.mul_add, Int.mul_comm (_ * _) 1000000000]; omega

theorem val_take_succ {l : List Int} {k : Nat} (h : k < l.length) : val (l.take (k + 1)) = val (l.take k) + l.getD k 0 * 1000000000 ^ k := by
  have e : l.take (k + 1) = l.take k ++ [l.getD k 0] := by
    rw [List.take_add_one, List.getElem?_eq_getElem h]; simp [List.getD_eq_getElem?_getD, List.getElem?_eq_getElem h]
  rw [e, val_append, List.length_take, Nat.min_eq_left (by omega)]
  simp only [val, Int.mul_zero, Int.add_zero]; rw [Int.mul_comm]

theorem val_drop {l : List Int} {k : Nat} (h : k < l.length) : val (l.drop k) = l.getD k 0 + 1000000000 * val (l.drop (k + 1)) := by
  rw [List.drop_eq_getElem_cons h]; simp [val, List.getD_eq_getElem?_getD, List.getElem?_eq_getElem h]

/-- the digits of a number -/
def digs (n : Nat) : List Int := if n = 0 then [] else ((n % 1000000000 : Nat) : Int) :: digs (n / 1000000000)
termination_by n
decreasing_by omega

theorem digs_zero : digs 0 = [] := by rw [digs]; simp
theorem digs_pos {n : Nat} (h : 0 < n) : digs n = ((n % 1000000000 : Nat) : Int) :: digs (n / 1000000000) := by rw [digs, if_neg (by omega)]

theorem dig_digs (n : Nat) : Dig (digs n) := by
  induction n using Nat.strongRecOn with
  | _ n ih =>
    by_cases h : n = 0
    · subst h; rw [digs_zero]; exact Dig.nil
    · rw [digs_pos (by omega)]; exact Dig.cons (by omega) (ih _ (by omega))

theorem val_digs (n : Nat) : val (digs n) = n := by
  induction n using Nat.strongRecOn with
  | _ n ih =>
    by_cases h : n = 0
    · subst h; rw [digs_zero]; rfl
    · rw [digs_pos (by omega)]; simp only [val, ih _ (show n / 1000000000 < n by omega)]; omega

/-- no highest zero -/
def Top (l : List Int) : Prop := 0 < l.length → l.getD (l.length - 1) 0 ≠ 0

theorem top_digs (n : Nat) : Top (digs n) := by
  induction n using Nat.strongRecOn with
  | _ n ih =>
    by_cases h : n = 0
    · subst h; rw [digs_zero]; intro h; simp at h
    · rw [digs_pos (by omega)]
      intro _
      by_cases h2 : n / 1000000000 = 0
      · rw [h2, digs_zero]; simp; omega
      · have := ih _ (show n / 1000000000 < n by omega)
        rw [digs_pos (n := n / 1000000000) (by omega)] at this ⊢
        simpa using this (by simp)

theorem Top.tail {d : Int} {l : List Int} (h : Top (d :: l)) : Top l := by
  intro hl
  have := h (by simp)
  cases l with
  | nil => simp at hl
  | cons e l => simpa using this

theorem digs_val {l : List Int} (h : Dig l) (ht : Top l) : digs (val l).toNat = l := by
  induction l with
  | nil => simp only [val]; exact digs_zero
  | cons d l ih =>
    have h1 := h.head
    have h2 := val_nonneg h.tail
    have h3 := ih h.tail ht.tail
    have hp : 0 < (val (d :: l)).toNat := by
      simp only [val]
      by_cases h0 : d = 0
      · have : l ≠ [] := by rintro rfl; exact ht (by simp) (by simpa using h0)
        by_cases hv : val l = 0
        · rw [hv] at h3; rw [Int.toNat_zero, digs_zero] at h3; exact absurd h3.symm this
        · omega
      · omega
    rw [digs_pos hp]
    have e1 : (((val (d :: l)).toNat % 1000000000 : Nat) : Int) = d := by simp only [val]; omega
    have e2 : (val (d :: l)).toNat / 1000000000 = (val l).toNat := by simp only [val]; omega
    rw [e1, e2, h3]

/-- the list without its highest zeros -/
def trimL (l : List Int) : List Int := digs (val l).toNat

theorem getD_take {l : List Int} {k j : Nat} (h : j < k) : (l.take k).getD j 0 = l.getD j 0 := by
  simp [List.getD_eq_getElem?_getD, h]

theorem val_take_zero {l : List Int} {k : Nat} (h : k < l.length) (hz : l.getD k 0 = 0) : val (l.take (k + 1)) = val (l.take k) := by
  rw [val_take_succ h, hz]; omega

theorem top_take {l : List Int} {k : Nat} (h : k ≤ l.length) (hz : k = 0 ∨ l.getD (k - 1) 0 ≠ 0) : Top (l.take k) := by
  intro hp
  have hl : (l.take k).length = k := by rw [List.length_take, Nat.min_eq_left h]
  rw [hl] at hp ⊢
  rw [getD_take (by omega)]
  exact hz.resolve_left (by omega)

theorem digs_of_take {l : List Int} {k : Nat} {n : Nat} (hd : Dig l) (h : k ≤ l.length) (hz : k = 0 ∨ l.getD (k - 1) 0 ≠ 0) (hv : val (l.take k) = n) : l.take k = digs n := by
  rw [← digs_val (hd.take k) (top_take h hz), hv]; rfl

theorem length_digs_le {n k : Nat} (h : n < 1000000000 ^ k) : (digs n).length ≤ k := by
  induction k generalizing n with
  | zero => have : n = 0 := by simpa using h
            subst this; rw [digs_zero]; simp
  | succ k ih =>
    by_cases h0 : n = 0
    · subst h0; rw [digs_zero]; simp
    · rw [digs_pos (by omega), List.length_cons]
      have : n / 1000000000 < 1000000000 ^ k := by rw [Nat.pow_succ] at h; exact Nat.div_lt_of_lt_mul (by rw [Nat.mul_comm]; exact h)
      have := ih this
      omega

theorem digs_lt (n : Nat) : n < 1000000000 ^ (digs n).length := by
  have h := val_lt (dig_digs n)
  rw [val_digs] at h
  have e : ((1000000000 ^ (digs n).length : Nat) : Int) = (1000000000 : Int) ^ (digs n).length := by rw [Int.natCast_pow]; rfl
  rw [← e] at h
  exact Int.ofNat_lt.1 h

theorem digs_ge {n : Nat} (h : 0 < (digs n).length) : 1000000000 ^ ((digs n).length - 1) ≤ n := by
  apply Decidable.byContradiction
  intro hc
  have := length_digs_le (n := n) (k := (digs n).length - 1) (by omega)
  omega

theorem length_digs_mono {n m : Nat} (h : n ≤ m) : (digs n).length ≤ (digs m).length :=
  length_digs_le (Nat.lt_of_le_of_lt h (digs_lt m))

theorem digs_len_zero {n : Nat} : (digs n).length = 0 ↔ n = 0 := by
  constructor
  · intro h; have := digs_lt n; rw [h] at this; omega
  · rintro rfl; rw [digs_zero]; rfl

/-- the order of two lists of one length, from the highest digit below k -/
def cmpTo (x y : List Int) : Nat → Int
  | 0 => 0
  | k + 1 => if x.getD k 0 = y.getD k 0 then cmpTo x y k else x.getD k 0 - y.getD k 0

theorem cmpTo_sign {x y : List Int} (hx : Dig x) (hy : Dig y) : ∀ k, k ≤ x.length → k ≤ y.length →
    ((0 < cmpTo x y k ↔ val (y.take k) < val (x.take k)) ∧ (cmpTo x y k < 0 ↔ val (x.take k) < val (y.take k)) ∧ -1000000000 < cmpTo x y k ∧ cmpTo x y k < 1000000000)
  | 0, _, _ => by simp [cmpTo]
  | k + 1, h1, h2 => by
    have ih := cmpTo_sign hx hy k (by omega) (by omega)
    rw [val_take_succ (by omega), val_take_succ (by omega)]
    have a1 := hx.all k; have a2 := hy.all k
    have b1 := val_lt (hx.take k); have b2 := val_lt (hy.take k)
    have c1 := val_nonneg (hx.take k); have c2 := val_nonneg (hy.take k)
    rw [List.length_take, Nat.min_eq_left (by omega)] at b1 b2
    simp only [cmpTo]
    generalize (1000000000 : Int) ^ k = p at *
    generalize val (x.take k) = u at *
    generalize val (y.take k) = v at *
    generalize x.getD k 0 = a at *
    generalize y.getD k 0 = b at *
    by_cases h : a = b
    · subst h; rw [if_pos rfl]; refine ⟨by rw [ih.1]; omega, by rw [ih.2.1]; omega, ih.2.2.1, ih.2.2.2⟩
    · rw [if_neg h]
      have hp : 0 < p := by omega
      rcases Int.lt_or_gt_of_ne h with hlt | hgt
      · have : (a + 1) * p ≤ b * p := Int.mul_le_mul_of_nonneg_right (by omega) (by omega)
        rw [Int.add_mul, Int.one_mul] at this
        exact ⟨by omega, by omega, by omega, by omega⟩
      · have : (b + 1) * p ≤ a * p := Int.mul_le_mul_of_nonneg_right (by omega) (by omega)
        rw [Int.add_mul, Int.one_mul] at this
        exact ⟨by omega, by omega, by omega, by omega⟩

/-- the order of two sizes, as Go's Cmp has it -/
def cmpS (x y : List Int) : Int := if x.length = y.length then cmpTo x y x.length else (x.length : Int) - y.length

theorem cmpS_sign {m n : Nat} : (0 < cmpS (digs m) (digs n) ↔ n < m) ∧ (cmpS (digs m) (digs n) < 0 ↔ m < n) := by
  unfold cmpS
  by_cases h : (digs m).length = (digs n).length
  · rw [if_pos h]
    have := cmpTo_sign (dig_digs m) (dig_digs n) (digs m).length (Nat.le_refl _) (by omega)
    rw [List.take_length, h, List.take_length, val_digs, val_digs] at this
    rw [h]
    exact ⟨by rw [this.1]; omega, by rw [this.2.1]; omega⟩
  · rw [if_neg h]
    constructor
    · constructor
      · intro h2
        apply Decidable.byContradiction; intro h3
        have := length_digs_mono (show m ≤ n by omega); omega
      · intro h2
        have := length_digs_mono (show n ≤ m by omega); omega
    · constructor
      · intro h2
        apply Decidable.byContradiction; intro h3
        have := length_digs_mono (show n ≤ m by omega); omega
      · intro h2
        have := length_digs_mono (show m ≤ n by omega); omega

end Go.Proofs.Ytkfkdkoohnfgaaa
