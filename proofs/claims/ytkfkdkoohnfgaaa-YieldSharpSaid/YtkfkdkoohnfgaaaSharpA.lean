/-
  DERIVED. Plain law of YieldSharp: what holds at the bounds and beside them, of at most seven trials.
-/
import Derived.Test.YtkfkdkoohnfgaaaYieldF
namespace Go.Proofs.Ytkfkdkoohnfgaaa
open Go.RowKit

theorem tail_falls : ∀ N, N < 8 → ∀ k, k < 8 → ∀ x, x < 100 → psum N ((x : Nat) + 1 : Int) 0 (k + 1) ≤ psum N ((x : Nat) : Int) 0 (k + 1) := by decide +kernel
theorem tails_all : ∀ N, N < 8 → ∀ k, k < 8 → k ≤ N → ∀ x, x < 101 → (100 : Int) ^ N ≤ psum N ((x : Nat) : Int) k (N + 1 - k) + psum N ((x : Nat) : Int) 0 (k + 1) := by decide +kernel
theorem tail_high : ∀ N, N < 8 → ∀ k, k < 8 → k ≤ N → psum N 100 k (N + 1 - k) = 100 ^ N := by decide +kernel
theorem tail_low : ∀ N, N < 8 → ∀ k, k < 8 → psum N 0 0 (k + 1) = 100 ^ N := by decide +kernel

theorem tail_mono {N k : Nat} (hN : N < 8) (hk : k < 8) : ∀ (d x : Nat), x + d ≤ 100 → psum N ((x + d : Nat) : Int) 0 (k + 1) ≤ psum N (x : Int) 0 (k + 1)
  | 0, x, _ => Int.le_refl _
  | d + 1, x, h => Int.le_trans (by have := tail_falls N hN k hk (x + d) (by omega); rwa [show ((x + (d + 1) : Nat) : Int) = ((x + d : Nat) : Int) + 1 by omega]) (tail_mono hN hk d x (by omega))

/-- the low bound: there the tail is small, one percent more it is not -/
theorem low_sharp {N k : Nat} {d : Int} (hN : N < 8) (hk : 0 < k) (hkN : k ≤ N) (h1 : 1 ≤ d) (h2 : d ≤ 999999) : ∃ x : Nat, x < 100 ∧ lowOf N k d = (x : Int) ∧ smallB N k N (d * 100 ^ N) (x : Int) = true ∧ smallB N k N (d * 100 ^ N) ((x : Int) + 1) = false := by
  have hp : (0 : Int) < 100 ^ N := Int.pow_pos (by decide)
  have h0 : 0 ≤ d * 100 ^ N := Int.mul_nonneg (by omega) (by omega)
  obtain ⟨m, hm, e, hno, hyes⟩ := down_spec (small_low (N := N) hk h0) 100
  have htop : smallB N k N (d * 100 ^ N) 100 = false := by
    unfold smallB
    rw [tail_high N hN k (by omega) hkN]
    refine decide_eq_false fun h => ?_
    have : d * 100 ^ N ≤ 999999 * 100 ^ N := Int.mul_le_mul_of_nonneg_right h2 (by omega)
    omega
  have hm0 : 0 < m := by
    rcases Nat.eq_zero_or_pos m with h | h
    · subst h
      rw [show ((100 : Nat) : Int) - ((0 : Nat) : Int) = 100 by omega, htop] at hyes; cases hyes
    · exact h
  refine ⟨100 - m, by omega, ?_, ?_, ?_⟩
  · unfold lowOf; rw [if_pos hk, e]; omega
  · rwa [show ((100 - m : Nat) : Int) = ((100 : Nat) : Int) - m by omega]
  · have := hno (m - 1) (by omega)
    rwa [show ((100 : Nat) : Int) - ((m - 1 : Nat) : Int) = ((100 - m : Nat) : Int) + 1 by omega] at this

/-- the high bound: there the tail is small, one percent less it is not -/
theorem high_sharp {N k : Nat} {d : Int} (hN : N < 8) (hkN : k < N) (h1 : 1 ≤ d) (h2 : d ≤ 999999) : ∃ x : Nat, 0 < x ∧ x ≤ 100 ∧ highOf N k d = (x : Int) ∧ smallB N 0 k (d * 100 ^ N) (x : Int) = true ∧ smallB N 0 k (d * 100 ^ N) ((x : Int) - 1) = false := by
  have hp : (0 : Int) < 100 ^ N := Int.pow_pos (by decide)
  have h0 : 0 ≤ d * 100 ^ N := Int.mul_nonneg (by omega) (by omega)
  obtain ⟨m, hm, e, hno, hyes⟩ := up_spec (small_high hkN h0) 100
  have hbot : smallB N 0 k (d * 100 ^ N) 0 = false := by
    unfold smallB
    rw [Nat.sub_zero, tail_low N hN k (by omega)]
    refine decide_eq_false fun h => ?_
    have : d * 100 ^ N ≤ 999999 * 100 ^ N := Int.mul_le_mul_of_nonneg_right h2 (by omega)
    omega
  have hm0 : 0 < m := by
    rcases Nat.eq_zero_or_pos m with h | h
    · subst h
      rw [show (100 : Int) - ((100 : Nat) : Int) + ((0 : Nat) : Int) = 0 by omega, hbot] at hyes; cases hyes
    · exact h
  refine ⟨m, hm0, hm, ?_, ?_, ?_⟩
  · unfold highOf; rw [if_pos hkN, e]; omega
  · rwa [show (100 : Int) - ((100 : Nat) : Int) + (m : Int) = m by omega] at hyes
  · have := hno (m - 1) (by omega)
    rwa [show (100 : Int) - ((100 : Nat) : Int) + ((m - 1 : Nat) : Int) = (m : Int) - 1 by omega] at this

theorem low_le_high {N k : Nat} {d : Int} (hN : N < 8) (hk : 0 < k) (hkN : k < N) (h1 : 1 ≤ d) (h2 : d < 500000) : lowOf N k d ≤ highOf N k d := by
  obtain ⟨x, hx, ex, sx, _⟩ := low_sharp hN hk (by omega) h1 (by omega)
  obtain ⟨y, hy0, hy, ey, sy, _⟩ := high_sharp hN hkN h1 (by omega)
  rw [ex, ey]
  apply Decidable.byContradiction
  intro hn
  have hp : (0 : Int) < 100 ^ N := Int.pow_pos (by decide)
  have a := of_decide_eq_true sx
  have b := of_decide_eq_true sy
  have c := tails_all N hN k (by omega) (by omega) x (by omega)
  have e := tail_mono hN (show k < 8 by omega) (x - y) y (by omega)
  rw [show ((y + (x - y) : Nat) : Int) = x by omega] at e
  rw [Nat.sub_zero] at b
  have f : d * 100 ^ N ≤ 499999 * 100 ^ N := Int.mul_le_mul_of_nonneg_right (by omega) (by omega)
  omega

end Go.Proofs.Ytkfkdkoohnfgaaa
