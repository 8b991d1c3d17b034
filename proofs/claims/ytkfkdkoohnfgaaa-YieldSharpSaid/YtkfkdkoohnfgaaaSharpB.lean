/-
  DERIVED. Plain law of YieldSharp, second part: the probabilities as fractions.
-/
import Derived.Test.YtkfkdkoohnfgaaaSharpA
import Derived.Test.YtkfkdkoohnfgaaaQNum
namespace Go.Proofs.Ytkfkdkoohnfgaaa
open Go.RowKit

theorem rat_parts (n : Int) {d : Nat} (hd : d ≠ 0) : ∃ m : Nat, 0 < m ∧ n = (mkRat n d).num * m ∧ d = (mkRat n d).den * m := by
  cases h : mkRat n d with
  | mk' n' d' z c =>
    obtain ⟨m, h1, h2, h3⟩ := Rat.mkRat_num_den hd h
    exact ⟨m, by omega, h2, h3⟩

theorem rat_cmp {n1 n2 : Int} {d1 d2 : Nat} (h1 : d1 ≠ 0) (h2 : d2 ≠ 0) : cmpZ ((mkRat n1 d1).num * (mkRat n2 d2).den) ((mkRat n2 d2).num * (mkRat n1 d1).den) ≤ 0 ↔ n1 * d2 ≤ n2 * d1 := by
  rw [cmpZ_le]
  obtain ⟨m, hm, e1, e2⟩ := rat_parts n1 h1
  obtain ⟨k, hk, e3, e4⟩ := rat_parts n2 h2
  generalize mkRat n1 d1 = q at *
  generalize mkRat n2 d2 = r at *
  have hp : (0 : Int) < (m : Int) * k := Int.mul_pos (by omega) (by omega)
  have a : n1 * (d2 : Int) = q.num * r.den * ((m : Int) * k) := by
    rw [e1, e4, Int.natCast_mul, Int.mul_assoc q.num m, Int.mul_left_comm (m : Int) r.den k, ← Int.mul_assoc q.num]
  have b : n2 * (d1 : Int) = r.num * q.den * ((m : Int) * k) := by
    rw [e3, e2, Int.natCast_mul, Int.mul_assoc r.num k, Int.mul_left_comm (k : Int) q.den m, ← Int.mul_assoc r.num, Int.mul_comm (k : Int) m]
  rw [a, b]
  constructor
  · intro h; exact Int.mul_le_mul_of_nonneg_right h (by omega)
  · intro h; exact Int.le_of_mul_le_mul_right h hp

/-- the parts of a fraction are not longer than those it is made of -/
theorem rat_fit {n : Int} {d : Nat} (hd : d ≠ 0) {l : Nat} (h1 : (digs n.natAbs).length ≤ l) (h2 : (digs d).length ≤ l) : (digs (mkRat n d).num.natAbs).length ≤ l ∧ (digs (mkRat n d).den).length ≤ l := by
  obtain ⟨m, hm, e1, e2⟩ := rat_parts n hd
  generalize mkRat n d = q at *
  refine ⟨Nat.le_trans (length_digs_mono ?_) h1, Nat.le_trans (length_digs_mono ?_) h2⟩
  · rw [e1, Int.natAbs_mul, Int.natAbs_natCast]; exact Nat.le_mul_of_pos_right _ hm
  · rw [e2]; exact Nat.le_mul_of_pos_right _ hm

theorem rat_sum (a b : Int) {d : Nat} (hd : d ≠ 0) : mkRat a d + mkRat b d = mkRat (a + b) d := by
  rw [Rat.mkRat_add_mkRat _ _ hd hd, ← Int.add_mul, Int.mul_comm, Rat.mkRat_mul_left hd]

/-- the probability of j good ones of t -/
def prob (x : Int) (t j : Nat) : Rat := mkRat (term t x j) (100 ^ t)

theorem term_zero (x : Int) : term 0 x 0 = 1 := by simp [term, ch]
theorem term_gt (x : Int) {t j : Nat} (h : t < j) : term t x j = 0 := by simp [term, ch_gt t j h]

theorem term_next (x : Int) (t j : Nat) (hj : j ≤ t) : term (t + 1) x (j + 1) = (if j + 1 ≤ t then term t x (j + 1) * (100 - x) else 0) + term t x j * x := by
  unfold term
  rw [ch_succ, Int.natCast_add, Int.add_mul, show t + 1 - (j + 1) = t - j by omega, Int.pow_succ, Int.add_comm]
  congr 1
  · by_cases h : j + 1 ≤ t
    · rw [if_pos h, show t - j = (t - (j + 1)) + 1 by omega, Int.pow_succ, ← Int.mul_assoc (x ^ j * x), ← Int.mul_assoc]
    · rw [if_neg h, ch_gt t (j + 1) (by omega)]; simp
  · rw [Int.mul_assoc (x ^ j), Int.mul_comm x, ← Int.mul_assoc (x ^ j), ← Int.mul_assoc]

theorem term_first (x : Int) (t : Nat) : term (t + 1) x 0 = term t x 0 * (100 - x) := by
  unfold term
  rw [ch_zero, ch_zero, Nat.sub_zero, Nat.sub_zero, Int.pow_succ (100 - x)]
  simp

theorem pow100 (t : Nat) : (100 : Nat) ^ t ≠ 0 := Nat.pos_iff_ne_zero.1 (Nat.pow_pos (by decide))

theorem prob_times (x y : Int) (t j : Nat) : prob x t j * mkRat y 100 = mkRat (term t x j * y) (100 ^ (t + 1)) := by
  unfold prob
  rw [Rat.mkRat_mul_mkRat, Nat.pow_succ]

theorem prob_first (x : Int) (t : Nat) : prob x t 0 * mkRat (100 - x) 100 + mkRat 0 1 = prob x (t + 1) 0 := by
  rw [prob_times, ← term_first]
  show _ + mkRat 0 1 = _
  rw [show mkRat 0 1 = (0 : Rat) from rfl, Rat.add_zero]
  rfl

theorem prob_mid (x : Int) (t j : Nat) (h : j + 1 ≤ t) : prob x t (j + 1) * mkRat (100 - x) 100 + prob x t j * mkRat x 100 = prob x (t + 1) (j + 1) := by
  rw [prob_times, prob_times, rat_sum _ _ (pow100 _)]
  unfold prob
  rw [term_next x t j (by omega), if_pos h]

theorem prob_last (x : Int) (t : Nat) : mkRat 0 1 + prob x t t * mkRat x 100 = prob x (t + 1) (t + 1) := by
  rw [prob_times, show mkRat 0 1 = (0 : Rat) from rfl, Rat.zero_add]
  unfold prob
  rw [term_next x t t (Nat.le_refl _), if_neg (by omega), Int.zero_add]

/-- the sum of k of them from A on -/
theorem prob_sum (x : Int) (N A : Nat) : ∀ k, mkRat (psum N x A k) (100 ^ N) + prob x N (A + k) = mkRat (psum N x A (k + 1)) (100 ^ N) := fun k => by
  unfold prob
  rw [rat_sum _ _ (pow100 _)]; rfl

end Go.Proofs.Ytkfkdkoohnfgaaa
